-- Laid by xprint, a program of this session that runs over the kit's print.
import Derived.Test.YtmindeeacfdonaaDoorPFnExactSolutionsx0
import Derived.Test.YtmindeeacfdonaaDoorPFnExactSolutionsx2
import Derived.Test.YtmindeeacfdonaaDoorPFnExactSolutionsx3
import Derived.Test.YtmindeeacfdonaaDoorPFnExactSolutionsx6
import Derived.Test.YtmindeeacfdonaaDoorPFnExactSolutionsx8
import Derived.Test.YtmindeeacfdonaaDoorPFnExactSolutionsx9
namespace Go.Proofs.YtmindeeacfdonaaDoor.PFnExactSolutions
open Go.RowKit Go.Proofs.YtmindeeacfdonaaDoorW.PrintWords Go.Proofs.YtmindeeacfdonaaDoorW.PrintLast Go.Proofs.YtmindeeacfdonaaDoorW.PrintMore Go.Proofs.YtmindeeacfdonaaDoor.Sq
attribute [local go_sem] max2_int min2_int max_two min_two max_three min_three max_four min_four   -- for this text's walks alone
set_option linter.unusedVariables false
set_option linter.unusedSimpArgs false

/-! ### laws_FnExactSolutions: function 12 -/
mutual
def laws_FnExactSolutions.j0 : Nat → List ByteArray → Bool → List ByteArray → Bool → Bool → Int → List (S30) → Int → List (S33) → Option (Bool)
  | 0, _, _, _, _, _, _, _, _, _ => none
  | k + 1, x4, x5, x7, x8, x40, x260000, x260001, x274000, x274001 => if x40 = true then (some false) else ((laws_toPuzzle.f k x260000 x260001).bind fun bt279 => ((laws_eqPuzzle.f k x274000 x274001 bt279.1 bt279.2).bind fun t283 => (if t283 = true then ((laws_markPuzzle.f k x274000 x274001 1).bind fun bt284 => (if bt284.1 < 0 then (laws_FnExactSolutions.j1 k x4 x5 x7 true x260000 x260001) else ((laws_eqStringS.f k x7 x4).bind fun t286 => (if t286 = true then (laws_FnExactSolutions.j1 k x4 x5 x7 (x8 != x5) x260000 x260001) else (laws_FnExactSolutions.j1 k x4 x5 x7 true x260000 x260001))))) else (some false))))
def laws_FnExactSolutions.j1 : Nat → List ByteArray → Bool → List ByteArray → Bool → Int → List (S30) → Option (Bool)
  | 0, _, _, _, _, _, _ => none
  | k + 1, x4, x5, x7, x61, x260000, x260001 => if x61 = true then (some false) else ((laws_markStringS.f k x7 1).bind fun bt287 => ((laws_heldStringS.f k bt287.2 1).bind fun t289 => (if t289 < 0 then (some false) else (if t289 = bt287.1 then ((laws_toPuzzle.f k x260000 x260001).bind fun bt290 => ((impl_Solutions.f k bt290.1 bt290.2).bind fun bt294 => ((laws_eqStringS.f k bt294.1 x4).bind fun t298 => (if t298 = true then (laws_FnExactSolutions.j2 k bt287.2 bt287.1 (bt294.2 != x5)) else (laws_FnExactSolutions.j2 k bt287.2 bt287.1 true))))) else (some false)))))
def laws_FnExactSolutions.j2 : Nat → List ByteArray → Int → Bool → Option (Bool)
  | 0, _, _, _ => none
  | k + 1, x7, x10, x87 => if x87 = true then (some false) else ((laws_heldStringS.f k x7 1).bind fun t299 => (if t299 < 0 then (some false) else (if t299 = x10 then (some true) else (some false))))
end
def laws_FnExactSolutions.f (k : Nat) (a0_0 : Int) (l0_1 : List (S30)) : Option (Bool) := (laws_szPuzzle.f a0_0 l0_1 1048576).bind fun t260 => (if t260 < 0 then (some true) else ((laws_toPuzzle.f k a0_0 l0_1).bind fun bt261 => ((spec_Solutions.f k bt261.1 bt261.2).bind fun bt265 => ((laws_toPuzzle.f k a0_0 l0_1).bind fun bt269 => ((impl_Solutions.f k bt269.1 bt269.2).bind fun bt274 => ((laws_eqStringS.f k bt274.1 bt265.1).bind fun t278 => (if t278 = true then (laws_FnExactSolutions.j0 k bt265.1 bt265.2 bt274.1 bt274.2 (bt274.2 != bt265.2) a0_0 l0_1 bt269.1 bt269.2) else (laws_FnExactSolutions.j0 k bt265.1 bt265.2 bt274.1 bt274.2 true a0_0 l0_1 bt269.1 bt269.2))))))))
theorem laws_FnExactSolutions.mono_l : ∀ k, (∀ y0 y1 y2 y3 y4 y5 y6 y7 y8, LeO (laws_FnExactSolutions.j0 k y0 y1 y2 y3 y4 y5 y6 y7 y8) (laws_FnExactSolutions.j0 (k + 1) y0 y1 y2 y3 y4 y5 y6 y7 y8)) ∧ (∀ y0 y1 y2 y3 y4 y5, LeO (laws_FnExactSolutions.j1 k y0 y1 y2 y3 y4 y5) (laws_FnExactSolutions.j1 (k + 1) y0 y1 y2 y3 y4 y5)) ∧ (∀ y0 y1 y2, LeO (laws_FnExactSolutions.j2 k y0 y1 y2) (laws_FnExactSolutions.j2 (k + 1) y0 y1 y2))
  | 0 => ⟨fun _ _ _ _ _ _ _ _ _ r h => by simp [laws_FnExactSolutions.j0] at h, fun _ _ _ _ _ _ r h => by simp [laws_FnExactSolutions.j1] at h, fun _ _ _ r h => by simp [laws_FnExactSolutions.j2] at h⟩
  | k + 1 => by
    obtain ⟨ih0, ih1, ih2⟩ := laws_FnExactSolutions.mono_l k
    refine ⟨?_, ?_, ?_⟩
    · intro y0 y1 y2 y3 y4 y5 y6 y7 y8
      unfold laws_FnExactSolutions.j0
      repeat' first
      | (with_reducible exact ih0 _ _ _ _ _ _ _ _ _)
      | (with_reducible exact ih1 _ _ _ _ _ _)
      | (with_reducible exact ih2 _ _ _)
      | (with_reducible exact impl_Solutions.mono _ _ _)
      | (with_reducible exact laws_eqPuzzle.mono _ _ _ _ _)
      | (with_reducible exact laws_eqStringS.mono _ _ _)
      | (with_reducible exact laws_heldStringS.mono _ _ _)
      | (with_reducible exact laws_markPuzzle.mono _ _ _ _)
      | (with_reducible exact laws_markStringS.mono _ _ _)
      | (with_reducible exact laws_toPuzzle.mono _ _ _)
      | (with_reducible exact spec_Solutions.mono _ _ _)
      | (with_reducible exact LeO.refl _)
      | (with_reducible exact LeO.none _)
      | (with_reducible refine LeO.ite ?_ ?_)
      | (with_reducible refine LeO.bind ?_ (fun _ => ?_))
      | exact ih0 _ _ _ _ _ _ _ _ _
      | exact ih1 _ _ _ _ _ _
      | exact ih2 _ _ _
      | exact impl_Solutions.mono _ _ _
      | exact laws_eqPuzzle.mono _ _ _ _ _
      | exact laws_eqStringS.mono _ _ _
      | exact laws_heldStringS.mono _ _ _
      | exact laws_markPuzzle.mono _ _ _ _
      | exact laws_markStringS.mono _ _ _
      | exact laws_toPuzzle.mono _ _ _
      | exact spec_Solutions.mono _ _ _
      | exact LeO.none _
      | refine LeO.ite ?_ ?_
      | refine LeO.bind ?_ (fun _ => ?_)
    · intro y0 y1 y2 y3 y4 y5
      unfold laws_FnExactSolutions.j1
      repeat' first
      | (with_reducible exact ih0 _ _ _ _ _ _ _ _ _)
      | (with_reducible exact ih1 _ _ _ _ _ _)
      | (with_reducible exact ih2 _ _ _)
      | (with_reducible exact impl_Solutions.mono _ _ _)
      | (with_reducible exact laws_eqPuzzle.mono _ _ _ _ _)
      | (with_reducible exact laws_eqStringS.mono _ _ _)
      | (with_reducible exact laws_heldStringS.mono _ _ _)
      | (with_reducible exact laws_markPuzzle.mono _ _ _ _)
      | (with_reducible exact laws_markStringS.mono _ _ _)
      | (with_reducible exact laws_toPuzzle.mono _ _ _)
      | (with_reducible exact spec_Solutions.mono _ _ _)
      | (with_reducible exact LeO.refl _)
      | (with_reducible exact LeO.none _)
      | (with_reducible refine LeO.ite ?_ ?_)
      | (with_reducible refine LeO.bind ?_ (fun _ => ?_))
      | exact ih0 _ _ _ _ _ _ _ _ _
      | exact ih1 _ _ _ _ _ _
      | exact ih2 _ _ _
      | exact impl_Solutions.mono _ _ _
      | exact laws_eqPuzzle.mono _ _ _ _ _
      | exact laws_eqStringS.mono _ _ _
      | exact laws_heldStringS.mono _ _ _
      | exact laws_markPuzzle.mono _ _ _ _
      | exact laws_markStringS.mono _ _ _
      | exact laws_toPuzzle.mono _ _ _
      | exact spec_Solutions.mono _ _ _
      | exact LeO.none _
      | refine LeO.ite ?_ ?_
      | refine LeO.bind ?_ (fun _ => ?_)
    · intro y0 y1 y2
      unfold laws_FnExactSolutions.j2
      repeat' first
      | (with_reducible exact ih0 _ _ _ _ _ _ _ _ _)
      | (with_reducible exact ih1 _ _ _ _ _ _)
      | (with_reducible exact ih2 _ _ _)
      | (with_reducible exact impl_Solutions.mono _ _ _)
      | (with_reducible exact laws_eqPuzzle.mono _ _ _ _ _)
      | (with_reducible exact laws_eqStringS.mono _ _ _)
      | (with_reducible exact laws_heldStringS.mono _ _ _)
      | (with_reducible exact laws_markPuzzle.mono _ _ _ _)
      | (with_reducible exact laws_markStringS.mono _ _ _)
      | (with_reducible exact laws_toPuzzle.mono _ _ _)
      | (with_reducible exact spec_Solutions.mono _ _ _)
      | (with_reducible exact LeO.refl _)
      | (with_reducible exact LeO.none _)
      | (with_reducible refine LeO.ite ?_ ?_)
      | (with_reducible refine LeO.bind ?_ (fun _ => ?_))
      | exact ih0 _ _ _ _ _ _ _ _ _
      | exact ih1 _ _ _ _ _ _
      | exact ih2 _ _ _
      | exact impl_Solutions.mono _ _ _
      | exact laws_eqPuzzle.mono _ _ _ _ _
      | exact laws_eqStringS.mono _ _ _
      | exact laws_heldStringS.mono _ _ _
      | exact laws_markPuzzle.mono _ _ _ _
      | exact laws_markStringS.mono _ _ _
      | exact laws_toPuzzle.mono _ _ _
      | exact spec_Solutions.mono _ _ _
      | exact LeO.none _
      | refine LeO.ite ?_ ?_
      | refine LeO.bind ?_ (fun _ => ?_)
theorem laws_FnExactSolutions.mono : ∀ a0 a1 k, LeO (laws_FnExactSolutions.f k a0 a1) (laws_FnExactSolutions.f (k + 1) a0 a1) := by
  intro a0 a1 k
  obtain ⟨ih0, ih1, ih2⟩ := laws_FnExactSolutions.mono_l k
  unfold laws_FnExactSolutions.f
  repeat' first
      | (with_reducible exact ih0 _ _ _ _ _ _ _ _ _)
      | (with_reducible exact ih1 _ _ _ _ _ _)
      | (with_reducible exact ih2 _ _ _)
      | (with_reducible exact impl_Solutions.mono _ _ _)
      | (with_reducible exact laws_eqPuzzle.mono _ _ _ _ _)
      | (with_reducible exact laws_eqStringS.mono _ _ _)
      | (with_reducible exact laws_heldStringS.mono _ _ _)
      | (with_reducible exact laws_markPuzzle.mono _ _ _ _)
      | (with_reducible exact laws_markStringS.mono _ _ _)
      | (with_reducible exact laws_toPuzzle.mono _ _ _)
      | (with_reducible exact spec_Solutions.mono _ _ _)
      | (with_reducible exact LeO.refl _)
      | (with_reducible exact LeO.none _)
      | (with_reducible refine LeO.ite ?_ ?_)
      | (with_reducible refine LeO.bind ?_ (fun _ => ?_))
      | exact ih0 _ _ _ _ _ _ _ _ _
      | exact ih1 _ _ _ _ _ _
      | exact ih2 _ _ _
      | exact impl_Solutions.mono _ _ _
      | exact laws_eqPuzzle.mono _ _ _ _ _
      | exact laws_eqStringS.mono _ _ _
      | exact laws_heldStringS.mono _ _ _
      | exact laws_markPuzzle.mono _ _ _ _
      | exact laws_markStringS.mono _ _ _
      | exact laws_toPuzzle.mono _ _ _
      | exact spec_Solutions.mono _ _ _
      | exact LeO.none _
      | refine LeO.ite ?_ ?_
      | refine LeO.bind ?_ (fun _ => ?_)
set_option maxHeartbeats 8000000 in
set_option maxRecDepth 100000 in
theorem laws_FnExactSolutions.calls (k : Nat) (a0_0 : Int) (A0_1 : Option Addr) (c0_1 : Nat) (l0_1 : List (S30)) (r : Bool) (w : World) (hm : Dr.Tab w) (hr0_1 : Kd.C k30 w A0_1 l0_1.length l0_1) (hc0_1 : l0_1.length ≤ c0_1) (hrt : r = true) (h : laws_FnExactSolutions.f k a0_0 l0_1 = some r) :
  Calls Tryd.prog 12 #[.agg #[.int .i64 a0_0, .slice A0_1 l0_1.length c0_1]] w fun e w' => e = .returned (.bool r) ∧ Below w.heap.size w w' := by
 have hu46 := Tryd.underlying46
 have hu38 := Tryd.underlying38
 have HR0_1 := Aside0.mk hr0_1
 have HC0_1 := Aside0.mk hc0_1
 clear hr0_1 hc0_1
 have HB := Aside0.mk (Below.refl w.heap.size w)
 have HRT := Aside0.mk hrt
 clear hrt
 have HMM := Aside0.mk hm
 clear hm
 unfold laws_FnExactSolutions.f at h
 have H := h
 clear h
 replace H := Option.bind_eq_some_iff.mp H
 obtain ⟨t260, A20, H⟩ := H
 (try dsimp only at H)
 have A2 := Aside0.mk A20
 clear A20
 by_cases c3 : t260 < 0
 ·rw [if_pos c3] at H
  have c3b0 : decide (t260 < 0) = true := decide_eq_true c3
  clear c3
  obtain rfl := Option.some.inj H
  go_enter Tryd.func12, Tryd.ntmps12
  go_wp2_with (first | ((with_reducible refine gate_dst (N := 1) rfl ?_); refine bx 1 46 #[.int .i64 a0_0, .slice A0_1 l0_1.length c0_1] ?_; intro gb259 hg w4 hbox hb; have BK259 := hbox; have GW259 := gs hg; have GE259 := gs hg; replace HB := bs hb; clear hb hbox hg; have hcz5_0 := bc BK259 0 (.int .i64 a0_0); have hcz5_1 := bc BK259 1 (.slice A0_1 l0_1.length c0_1); have hfz5_0 := blk_frozen BK259.out 0; have hfz5_1 := blk_frozen BK259.out 1) | ((with_reducible refine gate_callee (f := 27) rfl ?_); refine gl (some 16) Tryd.func27 #[.agg #[.int .i64 a0_0, .slice A0_1 l0_1.length c0_1], .int .i64 1048576] ?_; (with_reducible refine (laws_szPuzzle.calls a0_0 _ _ l0_1 1048576 t260 _ ?side1 ?side2 A2.out).mono ?_); (case side1 => repeat (first | exact (Kd.C_below HR0_1.out HB.out) | (with_reducible refine Kd.C_alloc ?_ _) | (with_reducible refine Kd.C_drewN ?_ _) | (with_reducible refine Kd.C_drew ?_))); (case side2 => exact HC0_1.out); rintro e w6 ⟨rfl, hb⟩; refine ⟨_, rfl, ?_⟩; replace BK259 := nk BK259 hb; replace HB := bs hb; (try clear hb)))
  go_ret
  exact ⟨rs, bw⟩
 ·rw [if_neg c3] at H
  have c3b0 : decide (t260 < 0) = false := decide_eq_false c3
  clear c3
  replace H := Option.bind_eq_some_iff.mp H
  obtain ⟨⟨t261, t262⟩, A70, H⟩ := H
  (try dsimp only at H)
  have A7 := Aside0.mk A70
  clear A70
  replace H := Option.bind_eq_some_iff.mp H
  obtain ⟨⟨t265, t268⟩, A80, H⟩ := H
  (try dsimp only at H)
  have A8 := Aside0.mk A80
  clear A80
  replace H := Option.bind_eq_some_iff.mp H
  obtain ⟨⟨t269, t270⟩, A90, H⟩ := H
  (try dsimp only at H)
  have A9 := Aside0.mk A90
  clear A90
  replace H := Option.bind_eq_some_iff.mp H
  obtain ⟨⟨t274, t277⟩, A100, H⟩ := H
  (try dsimp only at H)
  have A10 := Aside0.mk A100
  clear A100
  have HC11 := Aside0.mk H
  clear H
  go_enter Tryd.func12, Tryd.ntmps12
  go_upto_region 8 with (first | ((with_reducible refine gate_dst (N := 1) rfl ?_); refine bx 1 46 #[.int .i64 a0_0, .slice A0_1 l0_1.length c0_1] ?_; intro gb259 hg w12 hbox hb; have BK259 := hbox; have GW259 := gs hg; have GE259 := gs hg; replace HB := bs hb; clear hb hbox hg; have hcz13_0 := bc BK259 0 (.int .i64 a0_0); have hcz13_1 := bc BK259 1 (.slice A0_1 l0_1.length c0_1); have hfz13_0 := blk_frozen BK259.out 0; have hfz13_1 := blk_frozen BK259.out 1) | ((with_reducible refine gate_callee (f := 27) rfl ?_); refine gl (some 16) Tryd.func27 #[.agg #[.int .i64 a0_0, .slice A0_1 l0_1.length c0_1], .int .i64 1048576] ?_; (with_reducible refine (laws_szPuzzle.calls a0_0 _ _ l0_1 1048576 t260 _ ?side1 ?side2 A2.out).mono ?_); (case side1 => repeat (first | exact (Kd.C_below HR0_1.out HB.out) | (with_reducible refine Kd.C_alloc ?_ _) | (with_reducible refine Kd.C_drewN ?_ _) | (with_reducible refine Kd.C_drew ?_))); (case side2 => exact HC0_1.out); rintro e w14 ⟨rfl, hb⟩; refine ⟨_, rfl, ?_⟩; replace BK259 := nk BK259 hb; replace HB := bs hb; (try clear hb); have hcz15_0 := bc BK259 0 (.int .i64 a0_0); have hcz15_1 := bc BK259 1 (.slice A0_1 l0_1.length c0_1); have hfz15_0 := blk_frozen BK259.out 0; have hfz15_1 := blk_frozen BK259.out 1) | ((with_reducible refine gate_callee (f := 29) rfl ?_); refine gl (some 21) Tryd.func29 #[.agg #[.int .i64 a0_0, .slice A0_1 l0_1.length c0_1]] ?_; (with_reducible refine (laws_toPuzzle.calls k a0_0 _ _ l0_1 t261 t262 _ ?side1 ?side2 A7.out).mono ?_); (case side1 => repeat (first | exact (Kd.C_below HR0_1.out HB.out) | (with_reducible refine Kd.C_alloc ?_ _) | (with_reducible refine Kd.C_drewN ?_ _) | (with_reducible refine Kd.C_drew ?_))); (case side2 => exact HC0_1.out); rintro e w16 ⟨v263, rfl, ho0, hb⟩; refine ⟨_, rfl, ?_⟩; have HO264 := Aside0.mk (Kd.R_lower ho0 (below_size bw)); replace BK259 := nk BK259 hb; replace HB := bs hb; (try clear hb); (try clear ho0); obtain ⟨Ao17, co17, eo17⟩ := Kd.R_slice HO264.out; subst eo17) | ((with_reducible refine gate_callee (f := 44) rfl ?_); refine gl (some 22) Tryd.func44 #[.agg #[.int .i64 t261, .slice Ao17 t262.length co17]] ?_; (with_reducible refine (spec_Solutions.calls k t261 _ _ t262 t265 t268 _ ?side1 ?side2 A8.out).mono ?_); (case side1 => repeat (first | exact (Kd.R_reads' HO264.out).2.2 | (with_reducible refine Kd.C_alloc ?_ _) | (with_reducible refine Kd.C_drewN ?_ _) | (with_reducible refine Kd.C_drew ?_))); (case side2 => exact (Kd.R_reads' HO264.out).2.1); rintro e w18 ⟨v266, rfl, ho0, hb⟩; refine ⟨_, rfl, ?_⟩; replace HO264 := Aside0.mk (Kd.R_below (pr HO264) hb); have HO267 := Aside0.mk (Kd.R_lower ho0 (below_size bw)); replace BK259 := nk BK259 hb; replace HB := bs hb; (try clear hb); (try clear ho0); have hcz19_0 := bc BK259 0 (.int .i64 a0_0); have hcz19_1 := bc BK259 1 (.slice A0_1 l0_1.length c0_1); have hfz19_0 := blk_frozen BK259.out 0; have hfz19_1 := blk_frozen BK259.out 1) | ((with_reducible refine gate_callee (f := 29) rfl ?_); refine gl (some 26) Tryd.func29 #[.agg #[.int .i64 a0_0, .slice A0_1 l0_1.length c0_1]] ?_; (with_reducible refine (laws_toPuzzle.calls k a0_0 _ _ l0_1 t269 t270 _ ?side1 ?side2 A9.out).mono ?_); (case side1 => repeat (first | exact (Kd.C_below HR0_1.out HB.out) | (with_reducible refine Kd.C_alloc ?_ _) | (with_reducible refine Kd.C_drewN ?_ _) | (with_reducible refine Kd.C_drew ?_))); (case side2 => exact HC0_1.out); rintro e w20 ⟨v271, rfl, ho0, hb⟩; refine ⟨_, rfl, ?_⟩; replace HO267 := Aside0.mk (Kd.R_below (pr HO267) hb); have HO272 := Aside0.mk (Kd.R_lower (Kd.R_new' ho0 (Kd.R_lt (pr HO264))) (below_size bw)); replace HO264 := Aside0.mk (Kd.R_elder' (pr HO264) (Kd.R_base ho0) hb); replace BK259 := nk BK259 hb; replace HB := bs hb; (try clear hb); (try clear ho0)) | ((with_reducible refine gate_dst (N := 6) rfl ?_); refine bx 6 38 #[.int .i64 0, .slice none 0 0] ?_; intro gb273 hg w21 hbox hb; replace HO264 := Aside0.mk (Kd.R_below (pr HO264) hb); replace HO267 := Aside0.mk (Kd.R_below (pr HO267) hb); replace HO272 := Aside0.mk (Kd.R_below (pr HO272) hb); have BK273 := hbox; have GW273 := gs hg; have GE273 := gs hg; replace HB := bs hb; have NB259_273 := nl BK259 hg; have NB273_259 := ng BK259 hg; replace BK259 := nk BK259 hb; clear hb hbox hg; have hnb22 := NB273_259.out; have hnc22 := NB259_273.out; have hcz23_0 := bc BK273 0 (.int .i64 0); have hcz23_1 := bc BK273 1 (.slice none 0 0); have hfz23_0 := blk_frozen BK273.out 0; have hfz23_1 := blk_frozen BK273.out 1; obtain ⟨Ao24, co24, eo24⟩ := Kd.R_slice HO272.out; subst eo24) | ((with_reducible refine gate_callee (f := 45) rfl ?_); refine gl (some 29) Tryd.func45 #[.agg #[.int .i64 t269, .slice Ao24 t270.length co24]] ?_; (with_reducible refine (impl_Solutions.calls k t269 _ _ t270 t274 t277 _ ?side1 ?side2 ?side3 A10.out).mono ?_); (case side1 => first | exact HMM.out | exact Dr.Tab.below HMM.out bw | (repeat (first | exact HMM.out | apply Dr.Tab.drewN | apply Dr.Tab.drew | apply Dr.Tab.alloc))); (case side2 => refine (Kd.R_reads' (e := 33) (base := w.heap.size) (ok := fun k_ => (True ∧ some k_ ≠ (.slice Ao17 t262.length co17 : Value).ownBlock)) (n := t270.length) (c := co24) ?_).2.2; exact (by (with_reducible repeat (first | apply Kd.R_alloc | apply Kd.R_drewN | apply Kd.R_drew)); exact (Kd.R_mono (Kd.R_far (p := ⟨gb273, 1, none⟩) (Kd.R_far (p := ⟨gb273, 0, none⟩) (Kd.R_types HO272.out BK273.out (by decide)) (fun _ hk => hk.2) (.int .i64 t269)) (fun _ hk => hk.2) (.slice Ao24 t270.length co24)) (fun _ h_ => h_.1)))); (case side3 => exact (Kd.R_reads' HO272.out).2.1); rintro e w25 ⟨v275, rfl, ho0, hb⟩; refine ⟨_, rfl, ?_⟩; replace HO264 := Aside0.mk (Kd.R_below (by (with_reducible repeat (first | apply Kd.R_alloc | apply Kd.R_drewN | apply Kd.R_drew)); exact (Kd.R_mono (Kd.R_far (p := ⟨gb273, 1, none⟩) (Kd.R_far (p := ⟨gb273, 0, none⟩) (Kd.R_types HO264.out BK273.out (by decide)) (fun _ hk => hk.2) (.int .i64 t269)) (fun _ hk => hk.2) (.slice Ao24 t270.length co24)) (fun _ h_ => h_.1))) hb); replace HO272 := Aside0.mk (Kd.R_below (by (with_reducible repeat (first | apply Kd.R_alloc | apply Kd.R_drewN | apply Kd.R_drew)); exact (Kd.R_mono (Kd.R_far (p := ⟨gb273, 1, none⟩) (Kd.R_far (p := ⟨gb273, 0, none⟩) (Kd.R_types HO272.out BK273.out (by decide)) (fun _ hk => hk.2) (.int .i64 t269)) (fun _ hk => hk.2) (.slice Ao24 t270.length co24)) (fun _ h_ => h_.1))) hb); have HO276 := Aside0.mk (Kd.R_lower (Kd.R_new' ho0 (Kd.R_lt (by (with_reducible repeat (first | apply Kd.R_alloc | apply Kd.R_drewN | apply Kd.R_drew)); exact (Kd.R_mono (Kd.R_far (p := ⟨gb273, 1, none⟩) (Kd.R_far (p := ⟨gb273, 0, none⟩) (Kd.R_types HO267.out BK273.out (by decide)) (fun _ hk => hk.2) (.int .i64 t269)) (fun _ hk => hk.2) (.slice Ao24 t270.length co24)) (fun _ h_ => h_.1))))) (below_size bw)); replace HO267 := Aside0.mk (Kd.R_elder' (by (with_reducible repeat (first | apply Kd.R_alloc | apply Kd.R_drewN | apply Kd.R_drew)); exact (Kd.R_mono (Kd.R_far (p := ⟨gb273, 1, none⟩) (Kd.R_far (p := ⟨gb273, 0, none⟩) (Kd.R_types HO267.out BK273.out (by decide)) (fun _ hk => hk.2) (.int .i64 t269)) (fun _ hk => hk.2) (.slice Ao24 t270.length co24)) (fun _ h_ => h_.1))) (Kd.R_base ho0) hb); replace BK259 := Aside0.mk (blk_below (g := gb259) (o := .cells #[.int .i64 a0_0, .slice A0_1 l0_1.length c0_1] 46 (0, 0)) (by (with_reducible repeat (first | refine blk_drewN ?_ _ | refine blk_drew ?_ | refine blk_alloc ?_ _)); refine blk_far ?_ NB259_273.out _; (with_reducible repeat (first | refine blk_drewN ?_ _ | refine blk_drew ?_ | refine blk_alloc ?_ _)); refine blk_far ?_ NB259_273.out _; (with_reducible repeat (first | refine blk_drewN ?_ _ | refine blk_drew ?_ | refine blk_alloc ?_ _)); exact BK259.out) hb); replace BK273 := Aside0.mk (blk_below (g := gb273) (o := .cells #[.int .i64 t269, .slice Ao24 t270.length co24] 38 (0, 0)) (by (with_reducible repeat (first | refine blk_drewN ?_ _ | refine blk_drew ?_ | refine blk_alloc ?_ _)); refine blk_put (cs := #[.int .i64 t269, .slice none 0 0]) ?_ 1 _ rfl; (with_reducible repeat (first | refine blk_drewN ?_ _ | refine blk_drew ?_ | refine blk_alloc ?_ _)); refine blk_put (cs := #[.int .i64 0, .slice none 0 0]) ?_ 0 _ rfl; (with_reducible repeat (first | refine blk_drewN ?_ _ | refine blk_drew ?_ | refine blk_alloc ?_ _)); exact BK273.out) hb); replace HB := bs hb; (try clear hb); (try clear ho0)))
  (try simp only [Act.put, List.setIfInBounds_toArray, List.set_cons_zero, List.set_cons_succ])
  go_cut [40] (fun v40 wc => ∃ (kq : Nat) (x40_10 : Bool), v40 = .bool x40_10 ∧ Aside0 (laws_FnExactSolutions.j0 kq t265 t268 t274 t277 x40_10 a0_0 l0_1 t269 t270 = some r) ∧ Aside0 (kq ≤ k) ∧ Aside0 (Kd.R Kd.string 9 wc w.heap.size (fun k_ => some k_ ≠ (v275 : Value).ownBlock) v266 t265) ∧ Aside0 (Kd.R Kd.string 9 wc w.heap.size (fun k_ => some k_ ≠ (v266 : Value).ownBlock) v275 t274) ∧ Aside0 (Kd.R k33 33 wc w.heap.size (fun _ => True) (.slice Ao24 t270.length co24) t270) ∧ Aside0 (wc.heap[gb259]? = some (.cells #[.int .i64 a0_0, (.slice A0_1 l0_1.length c0_1)] 46 (0, 0))) ∧ Aside0 (wc.heap[gb273]? = some (.cells #[.int .i64 t269, (.slice Ao24 t270.length co24)] 38 (0, 0))) ∧ Aside0 (Below w.heap.size w wc))
  case first =>
   have H := HC11.out
   clear HC11
   replace H := Option.bind_eq_some_iff.mp H
   obtain ⟨t278, A260, H⟩ := H
   (try dsimp only at H)
   have A26 := Aside0.mk A260
   clear A260
   by_cases c27 : t278 = true
   ·subst c27
    rw [if_pos rfl] at H
    have H' := Aside0.mk H
    clear H
    obtain ⟨Ao28, co28, eo28⟩ := Kd.R_slice HO276.out
    subst eo28
    obtain ⟨Ao29, co29, eo29⟩ := Kd.R_slice HO267.out
    subst eo29
    go_wp2_with (first | ((with_reducible refine gate_callee (f := 46) rfl ?_); refine gl (some 34) Tryd.func46 #[.slice Ao28 t274.length co28, .slice Ao29 t265.length co29] ?_; (with_reducible refine (laws_eqStringS.calls k _ _ t274 _ _ t265 true _ ?side1 ?side2 ?side3 ?side4 A26.out).mono ?_); (case side1 => repeat (first | exact (Kd.R_reads' HO276.out).2.2 | (with_reducible refine Kd.C_alloc ?_ _) | (with_reducible refine Kd.C_drewN ?_ _) | (with_reducible refine Kd.C_drew ?_))); (case side2 => exact (Kd.R_reads' HO276.out).2.1); (case side3 => repeat (first | exact (Kd.R_reads' HO267.out).2.2 | (with_reducible refine Kd.C_alloc ?_ _) | (with_reducible refine Kd.C_drewN ?_ _) | (with_reducible refine Kd.C_drew ?_))); (case side4 => exact (Kd.R_reads' HO267.out).2.1); rintro e w' ⟨rfl, ⟨nd, rfl⟩⟩; refine ⟨_, rfl, ?_⟩))
    go_meet
    case rel => exact ⟨_, ((t277 != t268)), (rs), H', ⟨by first | omega | exact Nat.le_refl _⟩, ⟨by (with_reducible repeat (first | apply Kd.R_alloc | apply Kd.R_drewN | apply Kd.R_drew)); exact Kd.R_mono HO267.out (fun _ hk => hk.2)⟩, ⟨by (with_reducible repeat (first | apply Kd.R_alloc | apply Kd.R_drewN | apply Kd.R_drew)); exact Kd.R_mono HO276.out (fun _ hk => hk.2)⟩, ⟨by (with_reducible repeat (first | apply Kd.R_alloc | apply Kd.R_drewN | apply Kd.R_drew)); exact Kd.R_mono HO272.out (fun _ hk => trivial)⟩, ⟨pk BK259⟩, ⟨pk BK273⟩, ⟨bw⟩⟩
   ·replace c27 := Bool.eq_false_iff.mpr c27
    subst c27
    rw [if_neg (show ¬ (false = true) by decide)] at H
    have H' := Aside0.mk H
    clear H
    obtain ⟨Ao30, co30, eo30⟩ := Kd.R_slice HO276.out
    subst eo30
    obtain ⟨Ao31, co31, eo31⟩ := Kd.R_slice HO267.out
    subst eo31
    go_wp2_with (first | ((with_reducible refine gate_callee (f := 46) rfl ?_); refine gl (some 34) Tryd.func46 #[.slice Ao30 t274.length co30, .slice Ao31 t265.length co31] ?_; (with_reducible refine (laws_eqStringS.calls k _ _ t274 _ _ t265 false _ ?side1 ?side2 ?side3 ?side4 A26.out).mono ?_); (case side1 => repeat (first | exact (Kd.R_reads' HO276.out).2.2 | (with_reducible refine Kd.C_alloc ?_ _) | (with_reducible refine Kd.C_drewN ?_ _) | (with_reducible refine Kd.C_drew ?_))); (case side2 => exact (Kd.R_reads' HO276.out).2.1); (case side3 => repeat (first | exact (Kd.R_reads' HO267.out).2.2 | (with_reducible refine Kd.C_alloc ?_ _) | (with_reducible refine Kd.C_drewN ?_ _) | (with_reducible refine Kd.C_drew ?_))); (case side4 => exact (Kd.R_reads' HO267.out).2.1); rintro e w' ⟨rfl, ⟨nd, rfl⟩⟩; refine ⟨_, rfl, ?_⟩))
    go_meet
    case rel => exact ⟨_, (true), (rs), H', ⟨by first | omega | exact Nat.le_refl _⟩, ⟨by (with_reducible repeat (first | apply Kd.R_alloc | apply Kd.R_drewN | apply Kd.R_drew)); exact Kd.R_mono HO267.out (fun _ hk => hk.2)⟩, ⟨by (with_reducible repeat (first | apply Kd.R_alloc | apply Kd.R_drewN | apply Kd.R_drew)); exact Kd.R_mono HO276.out (fun _ hk => hk.2)⟩, ⟨by (with_reducible repeat (first | apply Kd.R_alloc | apply Kd.R_drewN | apply Kd.R_drew)); exact Kd.R_mono HO272.out (fun _ hk => trivial)⟩, ⟨pk BK259⟩, ⟨pk BK273⟩, ⟨bw⟩⟩
  case rest =>
   clear HC11
   try clear c1
   try clear c2
   try clear p2
   try clear c3
   try clear c3b0
   try clear c4
   try clear c12
   try clear c22
   try clear c27
   try clear c29
   try clear hcz13_0
   try clear hcz13_1
   try clear hcz15_0
   try clear hcz15_1
   try clear hcz19_0
   try clear hcz19_1
   try clear hcz23_0
   try clear hcz23_1
   try clear hcz5_0
   try clear hcz5_1
   try clear hfz13_0
   try clear hfz13_1
   try clear hfz15_0
   try clear hfz15_1
   try clear hfz19_0
   try clear hfz19_1
   try clear hfz23_0
   try clear hfz23_1
   try clear hfz5_0
   try clear hfz5_1
   obtain ⟨kq, x40_10, rfl, HA, HJ10, HO_4, HO_7, HO_274001, BK259, BK273, HB⟩ := hcut
   cases kq with
   | zero => exact absurd HA.out (by simp [laws_FnExactSolutions.j0])
   | succ kj10 =>
    have H := HA.out
    clear HA
    simp only [laws_FnExactSolutions.j0] at H
    by_cases c32 : x40_10 = true
    ·subst c32
     rw [if_pos rfl] at H
     exact absurd (Option.some.inj H) (by rw [HRT.out]; decide)
    ·replace c32 := Bool.eq_false_iff.mpr c32
     subst c32
     rw [if_neg (show ¬ (false = true) by decide)] at H
     replace H := Option.bind_eq_some_iff.mp H
     obtain ⟨⟨t279, t280⟩, A330, H⟩ := H
     (try dsimp only at H)
     have A33 := Aside0.mk A330
     clear A330
     replace H := Option.bind_eq_some_iff.mp H
     obtain ⟨t283, A340, H⟩ := H
     (try dsimp only at H)
     have A34 := Aside0.mk A340
     clear A340
     by_cases c35 : t283 = true
     ·subst c35
      rw [if_pos rfl] at H
      replace H := Option.bind_eq_some_iff.mp H
      obtain ⟨⟨t284, t285⟩, A360, H⟩ := H
      (try dsimp only at H)
      have A36 := Aside0.mk A360
      clear A360
      have HC37 := Aside0.mk H
      clear H
      try go_wp2
      replace HO_4 := Aside0.mk (Kd.R_drew HO_4.out)
      replace HO_7 := Aside0.mk (Kd.R_drew HO_7.out)
      replace HO_274001 := Aside0.mk (Kd.R_drew HO_274001.out)
      replace BK259 := Aside0.mk (blk_drew BK259.out)
      replace BK273 := Aside0.mk (blk_drew BK273.out)
      replace HB := Aside0.mk (below_drew1 HB.out)
      refine start_ (n := 5) (S := fun w' => w'.cell? ⟨gb273, 0, none⟩ = some (.int .i64 t269) ∧ w'.cell? ⟨gb273, 1, none⟩ = some (.slice Ao24 t270.length co24) ∧ w'.cell? ⟨gb259, 0, none⟩ = some (.int .i64 a0_0) ∧ w'.cell? ⟨gb259, 1, none⟩ = some (.slice A0_1 l0_1.length c0_1)) (ds := []) #[false, false, false, false, false] (by kernel_rfl) rfl rfl ⟨ec BK273, ec BK273, ec BK259, ec BK259⟩ (fun hHeld => ?_)
      generalize wc.drew = w38 at HO_4 HO_7 HO_274001 BK259 BK273 HB hHeld ⊢
      refine take_ (i := 0) (N := some 41) (v := ?_) (a' := ?_) #[true, false, false, false, false] rfl rfl (by kernel_rfl) (fun _ _ _ h => h) (Or.inl ⟨by rfl, ?_⟩) hHeld ?_ ?_
      rotate_left
      ·rintro w' ⟨s0, s1, s2, s3⟩
       go_simp
       with_reducible rfl
      rotate_left
      ·simp only [Act.put, List.setIfInBounds_toArray, List.set_cons_zero, List.set_cons_succ, i64_w, i32_w]
       rfl
      refine take_ (i := 1) (N := some 42) (v := ?_) (a' := ?_) #[true, true, false, false, false] rfl rfl (by kernel_rfl) (fun _ _ _ h => h) (Or.inl ⟨by rfl, ?_⟩) hHeld ?_ ?_
      rotate_left
      ·rintro w' ⟨s0, s1, s2, s3⟩
       go_simp
       with_reducible rfl
      rotate_left
      ·simp only [Act.put, List.setIfInBounds_toArray, List.set_cons_zero, List.set_cons_succ, i64_w, i32_w]
       rfl
      refine one_ (i := 2) (N := some 43) #[true, true, true, false, false] rfl rfl (by kernel_rfl) (by decide) (fun K hK => ?_)
      refine goes_ Tryd.func29 (by kernel_rfl) rfl #[.agg #[.int .i64 a0_0, .slice A0_1 l0_1.length c0_1]] (by rfl) rfl rfl (by (try simp only [List.map_toArray, List.map_cons, List.map_nil]); first | done | rfl | (simp only [List.length_drop, List.length_take]; rfl)) ?_
      with_reducible refine (laws_toPuzzle.calls kj10 a0_0 _ _ l0_1 t279 t280 _ ?side1 ?side2 A33.out).mono ?_
      (case side1 => repeat (first | exact (Kd.C_below HR0_1.out HB.out) | (with_reducible refine Kd.C_alloc ?_ _) | (with_reducible refine Kd.C_drewN ?_ _) | (with_reducible refine Kd.C_drew ?_)))
      (case side2 => exact HC0_1.out)
      rintro e w39 ⟨v281, rfl, ho0, hb⟩
      refine ⟨_, rfl, ?_⟩
      replace HO_4 := Aside0.mk (Kd.R_below (pr HO_4) hb)
      replace HO_7 := Aside0.mk (Kd.R_below (pr HO_7) hb)
      have HO282 := Aside0.mk (Kd.R_lower (Kd.R_new' ho0 (Kd.R_lt (pr HO_274001))) (below_size bw))
      replace HO_274001 := Aside0.mk (Kd.R_elder' (pr HO_274001) (Kd.R_base ho0) hb)
      replace BK259 := nk BK259 hb
      replace BK273 := nk BK273 hb
      replace HB := bs hb
      (try clear hb)
      (try clear ho0)
      obtain ⟨Ao40, co40, eo40⟩ := Kd.R_slice HO282.out
      (first | subst eo40 | (injection eo40 with f1_ f2_ f3_; have f4_ := f1_.symm; have f5_ := f3_.symm; clear f1_ f2_ f3_; subst f4_; subst f5_))
      refine hK.out _ _ ⟨ec BK273, ec BK273, ec BK259, ec BK259⟩ (fun hHeld => ?_)
      clear hK K
      refine nm (some 43) ?_
      refine one_ (i := 3) (N := some 44) #[true, true, true, true, false] rfl rfl (by kernel_rfl) (by decide) (fun K hK => ?_)
      refine goes_ Tryd.func24 (by kernel_rfl) rfl #[.agg #[.int .i64 t269, .slice Ao24 t270.length co24], .agg #[.int .i64 t279, .slice Ao40 t280.length co40]] (by rfl) rfl rfl (by (try simp only [List.map_toArray, List.map_cons, List.map_nil]); first | done | rfl | (simp only [List.length_drop, List.length_take]; rfl)) ?_
      with_reducible refine (laws_eqPuzzle.calls kj10 t269 _ _ t270 t279 _ _ t280 true _ ?side1 ?side2 ?side3 ?side4 A34.out).mono ?_
      (case side1 => repeat (first | exact (Kd.R_reads' HO_274001.out).2.2 | (with_reducible refine Kd.C_alloc ?_ _) | (with_reducible refine Kd.C_drewN ?_ _) | (with_reducible refine Kd.C_drew ?_)))
      (case side2 => exact (Kd.R_reads' HO_274001.out).2.1)
      (case side3 => repeat (first | exact (Kd.R_reads' HO282.out).2.2 | (with_reducible refine Kd.C_alloc ?_ _) | (with_reducible refine Kd.C_drewN ?_ _) | (with_reducible refine Kd.C_drew ?_)))
      (case side4 => exact (Kd.R_reads' HO282.out).2.1)
      rintro e w41 ⟨rfl, hb⟩
      refine ⟨_, rfl, ?_⟩
      replace HO_4 := Aside0.mk (Kd.R_below (pr HO_4) hb)
      replace HO_7 := Aside0.mk (Kd.R_below (pr HO_7) hb)
      replace HO_274001 := Aside0.mk (Kd.R_below (pr HO_274001) hb)
      replace HO282 := Aside0.mk (Kd.R_below (pr HO282) hb)
      replace BK259 := nk BK259 hb
      replace BK273 := nk BK273 hb
      replace HB := bs hb
      (try clear hb)
      refine hK.out _ _ ⟨ec BK273, ec BK273, ec BK259, ec BK259⟩ (fun hHeld => ?_)
      clear hK K
      refine nm (some 44) ?_
      refine pure_ (i := 4) (N := some 45) (v := ?_) (a' := ?_) #[true, true, true, true, true] rfl rfl (by kernel_rfl) (fun _ _ _ h => h) (Or.inl ⟨by rfl, ?_⟩) ?_ ?_
      rotate_left
      ·intro w'
       go_simp
       with_reducible rfl
      rotate_left
      ·simp only [Act.put, List.setIfInBounds_toArray, List.set_cons_zero, List.set_cons_succ, i64_w, i32_w]
       rfl
      refine done_ (by kernel_rfl) ?_
      have hnb42 := NB273_259.out
      have hnc42 := NB259_273.out
      have hcz43_0 := bc BK273 0 (.int .i64 t269)
      have hcz43_1 := bc BK273 1 (.slice Ao24 t270.length co24)
      have hfz43_0 := blk_frozen BK273.out 0
      have hfz43_1 := blk_frozen BK273.out 1
      go_upto_region 14 with (first | ((with_reducible refine gate_callee (f := 25) rfl ?_); refine gl (some 48) Tryd.func25 #[.agg #[.int .i64 t269, .slice Ao24 t270.length co24], .int .i64 1] ?_; (with_reducible refine (laws_markPuzzle.calls kj10 t269 (fun k_ => some k_ = (.slice Ao24 t270.length co24 : Value).ownBlock) (.slice Ao24 t270.length co24) t270 1 t284 t285 w _ ?side1 ?side2 A36.out).mono ?_); (case side1 => repeat (first | (with_reducible first | exact HB.out | apply below_alloc | apply pw_below_drewN | apply below_drew1 | refine below_set ?_ GE259.out | refine below_set ?_ GE273.out) | exact HB.out)); (case side2 => exact Kd.R_tight rfl HO_274001.out); rintro e w44 ⟨rfl, hy0, hb, hkp⟩; refine ⟨_, rfl, ?_⟩; replace HO_4 := Aside0.mk (Kd.R_mono (ok' := fun k_ => some k_ ≠ (v275 : Value).ownBlock) (Kd.R_keptB ((Kd.R_apart' HO_4.out (Kd.R_typed HO_274001.out) (by decide))) hkp (fun k_ hk_ hs_ => (hk_.2) hs_)) (fun k_ hk_ => hk_.1.1)); replace HO_7 := Aside0.mk (Kd.R_mono (ok' := fun k_ => some k_ ≠ (v266 : Value).ownBlock) (Kd.R_keptB ((Kd.R_apart' HO_7.out (Kd.R_typed HO_274001.out) (by decide))) hkp (fun k_ hk_ hs_ => (hk_.2) hs_)) (fun k_ hk_ => hk_.1.1)); replace BK259 := Aside0.mk (blk_kept (pk BK259) hkp (fun hs_ => (fun e_ => (Kd.R_ne HO_274001.out BK259.out (by decide)) e_) hs_)); replace BK273 := Aside0.mk (blk_kept (pk BK273) hkp (fun hs_ => (fun e_ => (Kd.R_ne HO_274001.out BK273.out (by decide)) e_) hs_)); replace HO_274001 := Aside0.mk (Kd.R_reok rfl hy0 (fun k_ e_ => HO_274001.out.1 k_ e_)); replace HO282 := Aside0.mk (Kd.R_mono (ok' := fun k_ => some k_ ≠ (.slice Ao24 t270.length co24 : Value).ownBlock) (Kd.R_keptB (HO282.out) hkp (fun k_ hk_ hs_ => (hk_.2) hs_)) (fun k_ hk_ => hk_.1.2)); replace HB := Aside0.mk (hb); (try clear hb); (try clear hkp); (try clear hy0)))
      (try simp only [Act.put, List.setIfInBounds_toArray, List.set_cons_zero, List.set_cons_succ])
      go_cut [61] (fun v61 wc => ∃ (kq : Nat) (x61_36 : Bool), v61 = .bool x61_36 ∧ Aside0 (laws_FnExactSolutions.j1 kq t265 t268 t274 x61_36 a0_0 l0_1 = some r) ∧ Aside0 (kq ≤ kj10) ∧ Aside0 (Kd.R Kd.string 9 wc w.heap.size (fun k_ => some k_ ≠ (v275 : Value).ownBlock) v266 t265) ∧ Aside0 (Kd.R Kd.string 9 wc w.heap.size (fun k_ => some k_ ≠ (v266 : Value).ownBlock) v275 t274) ∧ Aside0 (Kd.R k33 33 wc w.heap.size (fun _ => True) (.slice Ao24 t270.length co24) t285) ∧ Aside0 (wc.heap[gb259]? = some (.cells #[.int .i64 a0_0, (.slice A0_1 l0_1.length c0_1)] 46 (0, 0))) ∧ Aside0 (wc.heap[gb273]? = some (.cells #[.int .i64 t269, (.slice Ao24 t270.length co24)] 38 (0, 0))) ∧ Aside0 (Below w.heap.size w wc))
      case first =>
       have H := HC37.out
       clear HC37
       by_cases c45 : t284 < 0
       ·rw [if_pos c45] at H
        have c45b0 : decide (t284 < 0) = true := decide_eq_true c45
        clear c45
        (first | rw [c45b0] | rw [@decide_eq_true _ _ (of_decide_eq_true c45b1)] | rw [@decide_eq_false _ _ (of_decide_eq_false c45b1)] | (simp only [i64_w, i32_w]; rw [c45b0]) | skip)
        have H' := Aside0.mk H
        clear H
        go_wp2
        go_meet
        case rel => exact ⟨_, (true), (rs), H', ⟨by have := HJ10.out; first | omega | exact Nat.le_refl _⟩, ⟨pr HO_4⟩, ⟨pr HO_7⟩, ⟨by (with_reducible repeat (first | apply Kd.R_alloc | apply Kd.R_drewN | apply Kd.R_drew)); exact Kd.R_mono HO_274001.out (fun _ hk => trivial)⟩, ⟨pk BK259⟩, ⟨pk BK273⟩, ⟨bw⟩⟩
       ·rw [if_neg c45] at H
        have c45b0 : decide (t284 < 0) = false := decide_eq_false c45
        clear c45
        (first | rw [c45b0] | rw [@decide_eq_true _ _ (of_decide_eq_true c45b1)] | rw [@decide_eq_false _ _ (of_decide_eq_false c45b1)] | (simp only [i64_w, i32_w]; rw [c45b0]) | skip)
        replace H := Option.bind_eq_some_iff.mp H
        obtain ⟨t286, A460, H⟩ := H
        (try dsimp only at H)
        have A46 := Aside0.mk A460
        clear A460
        by_cases c47 : t286 = true
        ·subst c47
         rw [if_pos rfl] at H
         have H' := Aside0.mk H
         clear H
         obtain ⟨Ao48, co48, eo48⟩ := Kd.R_slice HO_7.out
         subst eo48
         obtain ⟨Ao49, co49, eo49⟩ := Kd.R_slice HO_4.out
         subst eo49
         go_wp2_with (first | (go_at_call 46; (with_reducible refine (laws_eqStringS.calls kj10 _ _ t274 _ _ t265 true _ ?side1 ?side2 ?side3 ?side4 A46.out).mono ?_); (case side1 => repeat (first | exact (Kd.R_reads' HO_7.out).2.2 | (with_reducible refine Kd.C_alloc ?_ _) | (with_reducible refine Kd.C_drewN ?_ _) | (with_reducible refine Kd.C_drew ?_))); (case side2 => exact (Kd.R_reads' HO_7.out).2.1); (case side3 => repeat (first | exact (Kd.R_reads' HO_4.out).2.2 | (with_reducible refine Kd.C_alloc ?_ _) | (with_reducible refine Kd.C_drewN ?_ _) | (with_reducible refine Kd.C_drew ?_))); (case side4 => exact (Kd.R_reads' HO_4.out).2.1); rintro e w' ⟨rfl, ⟨nd, rfl⟩⟩))
         go_meet
         case rel => exact ⟨_, ((t277 != t268)), (rs), H', ⟨by have := HJ10.out; first | omega | exact Nat.le_refl _⟩, ⟨pr HO_4⟩, ⟨pr HO_7⟩, ⟨by (with_reducible repeat (first | apply Kd.R_alloc | apply Kd.R_drewN | apply Kd.R_drew)); exact Kd.R_mono HO_274001.out (fun _ hk => trivial)⟩, ⟨pk BK259⟩, ⟨pk BK273⟩, ⟨bw⟩⟩
        ·replace c47 := Bool.eq_false_iff.mpr c47
         subst c47
         rw [if_neg (show ¬ (false = true) by decide)] at H
         have H' := Aside0.mk H
         clear H
         obtain ⟨Ao50, co50, eo50⟩ := Kd.R_slice HO_7.out
         subst eo50
         obtain ⟨Ao51, co51, eo51⟩ := Kd.R_slice HO_4.out
         subst eo51
         go_wp2_with (first | (go_at_call 46; (with_reducible refine (laws_eqStringS.calls kj10 _ _ t274 _ _ t265 false _ ?side1 ?side2 ?side3 ?side4 A46.out).mono ?_); (case side1 => repeat (first | exact (Kd.R_reads' HO_7.out).2.2 | (with_reducible refine Kd.C_alloc ?_ _) | (with_reducible refine Kd.C_drewN ?_ _) | (with_reducible refine Kd.C_drew ?_))); (case side2 => exact (Kd.R_reads' HO_7.out).2.1); (case side3 => repeat (first | exact (Kd.R_reads' HO_4.out).2.2 | (with_reducible refine Kd.C_alloc ?_ _) | (with_reducible refine Kd.C_drewN ?_ _) | (with_reducible refine Kd.C_drew ?_))); (case side4 => exact (Kd.R_reads' HO_4.out).2.1); rintro e w' ⟨rfl, ⟨nd, rfl⟩⟩))
         go_meet
         case rel => exact ⟨_, (true), (rs), H', ⟨by have := HJ10.out; first | omega | exact Nat.le_refl _⟩, ⟨pr HO_4⟩, ⟨pr HO_7⟩, ⟨by (with_reducible repeat (first | apply Kd.R_alloc | apply Kd.R_drewN | apply Kd.R_drew)); exact Kd.R_mono HO_274001.out (fun _ hk => trivial)⟩, ⟨pk BK259⟩, ⟨pk BK273⟩, ⟨bw⟩⟩
      case rest =>
       clear HC37
       try clear c1
       try clear c2
       try clear p2
       try clear c3
       try clear c3b0
       try clear c4
       try clear c12
       try clear c22
       try clear c24
       try clear c25
       try clear c27
       try clear c29
       try clear c32
       try clear c35
       try clear c42
       try clear c44
       try clear c45
       try clear c45b0
       try clear c46
       try clear c47
       try clear hcz13_0
       try clear hcz13_1
       try clear hcz15_0
       try clear hcz15_1
       try clear hcz19_0
       try clear hcz19_1
       try clear hcz23_0
       try clear hcz23_1
       try clear hcz43_0
       try clear hcz43_1
       try clear hcz5_0
       try clear hcz5_1
       try clear hfz13_0
       try clear hfz13_1
       try clear hfz15_0
       try clear hfz15_1
       try clear hfz19_0
       try clear hfz19_1
       try clear hfz23_0
       try clear hfz23_1
       try clear hfz43_0
       try clear hfz43_1
       try clear hfz5_0
       try clear hfz5_1
       try clear p2
       obtain ⟨kq, x61_36, rfl, HA, HJ36, HO_4, HO_7, HO_274001, BK259, BK273, HB⟩ := hcut
       have hl274001_36 := (Kd.R_reads' HO_274001.out).1
       rw [hl274001_36] at HO_274001
       (try simp only [hl274001_36])
       (try simp only [hl274001_36] at BK259)
       (try simp only [hl274001_36] at BK273)
       (try simp only [hl274001_36] at HO_4)
       (try simp only [hl274001_36] at HO_7)
       cases kq with
       | zero => exact absurd HA.out (by simp [laws_FnExactSolutions.j1])
       | succ kj36 =>
        have H := HA.out
        clear HA
        simp only [laws_FnExactSolutions.j1] at H
        by_cases c52 : x61_36 = true
        ·subst c52
         rw [if_pos rfl] at H
         exact absurd (Option.some.inj H) (by rw [HRT.out]; decide)
        ·replace c52 := Bool.eq_false_iff.mpr c52
         subst c52
         rw [if_neg (show ¬ (false = true) by decide)] at H
         replace H := Option.bind_eq_some_iff.mp H
         obtain ⟨⟨t287, t288⟩, A530, H⟩ := H
         (try dsimp only at H)
         have A53 := Aside0.mk A530
         clear A530
         replace H := Option.bind_eq_some_iff.mp H
         obtain ⟨t289, A540, H⟩ := H
         (try dsimp only at H)
         have A54 := Aside0.mk A540
         clear A540
         by_cases c55 : t289 < 0
         ·rw [if_pos c55] at H
          have c55b0 : decide (t289 < 0) = true := decide_eq_true c55
          clear c55
          exact absurd (Option.some.inj H) (by rw [HRT.out]; decide)
         ·rw [if_neg c55] at H
          have c55b0 : decide (t289 < 0) = false := decide_eq_false c55
          clear c55
          by_cases c56 : t289 = t287
          ·rw [if_pos c56] at H
           have c56b0 : (t289 == t287) = true := beq_iff_eq.mpr c56
           have c56b1 : (t289 != t287) = false := bne_eq_false_iff_eq.mpr c56
           clear c56
           replace H := Option.bind_eq_some_iff.mp H
           obtain ⟨⟨t290, t291⟩, A570, H⟩ := H
           (try dsimp only at H)
           have A57 := Aside0.mk A570
           clear A570
           replace H := Option.bind_eq_some_iff.mp H
           obtain ⟨⟨t294, t297⟩, A580, H⟩ := H
           (try dsimp only at H)
           have A58 := Aside0.mk A580
           clear A580
           have HC59 := Aside0.mk H
           clear H
           obtain ⟨Ao60, co60, eo60⟩ := Kd.R_slice HO_7.out
           subst eo60
           go_upto_region 25 with (first | ((with_reducible refine gate_callee (f := 47) rfl ?_); refine gl (some 64) Tryd.func47 #[.slice Ao60 t274.length co60, .int .i64 1] ?_; (with_reducible refine (laws_markStringS.calls kj36 (fun k_ => some k_ = (.slice Ao60 t274.length co60 : Value).ownBlock) (.slice Ao60 t274.length co60) t274 1 t287 t288 w _ ?side1 ?side2 A53.out).mono ?_); (case side1 => repeat (first | (with_reducible first | exact HB.out | apply below_alloc | apply pw_below_drewN | apply below_drew1 | refine below_set ?_ GE259.out | refine below_set ?_ GE273.out) | exact HB.out)); (case side2 => exact Kd.R_tight rfl HO_7.out); rintro e w61 ⟨rfl, hy0, hb, hkp⟩; refine ⟨_, rfl, ?_⟩; replace HO_4 := Aside0.mk (Kd.R_mono (ok' := fun k_ => some k_ ≠ (.slice Ao60 t274.length co60 : Value).ownBlock) (Kd.R_keptB (HO_4.out) hkp (fun k_ hk_ hs_ => (hk_) hs_)) (fun k_ hk_ => hk_.1)); replace HO_274001 := Aside0.mk (Kd.R_mono (ok' := fun k_ => True) (Kd.R_keptB ((Kd.R_apart' HO_274001.out (Kd.R_typed HO_7.out) (by decide))) hkp (fun k_ hk_ hs_ => (hk_.2) hs_)) (fun k_ hk_ => trivial)); replace BK259 := Aside0.mk (blk_kept (pk BK259) hkp (fun hs_ => (fun e_ => (Kd.R_ne HO_7.out BK259.out (by decide)) e_) hs_)); replace BK273 := Aside0.mk (blk_kept (pk BK273) hkp (fun hs_ => (fun e_ => (Kd.R_ne HO_7.out BK273.out (by decide)) e_) hs_)); replace HO_7 := Aside0.mk (Kd.R_reok rfl hy0 (fun k_ e_ => HO_7.out.1 k_ e_)); replace HB := Aside0.mk (hb); (try clear hb); (try clear hkp); (try clear hy0)) | ((with_reducible refine gate_callee (f := 48) rfl ?_); refine goesL_ (some 67) rfl rfl Tryd.func48 (by kernel_rfl) rfl #[.slice Ao60 t288.length co60, .int .i64 1] rfl (by (try simp only [List.map_toArray, List.map_cons, List.map_nil]); first | done | (rw [show t288.length = t274.length from (Kd.R_reads' HO_7.out).1.symm] <;> rfl) | rfl | (simp only [List.length_drop, List.length_take]; rfl)) ?_; (with_reducible refine (laws_heldStringS.calls kj36 _ _ t288 1 t289 _ ?side1 ?side2 A54.out).mono ?_); (case side1 => repeat (first | exact (Kd.R_reads' HO_7.out).2.2 | (with_reducible refine Kd.C_alloc ?_ _) | (with_reducible refine Kd.C_drewN ?_ _) | (with_reducible refine Kd.C_drew ?_))); (case side2 => rw [show t288.length = t274.length from (Kd.R_reads' HO_7.out).1.symm]; exact (Kd.R_reads' HO_7.out).2.1); rintro e w62 ⟨rfl, hb⟩; refine ⟨_, rfl, ?_⟩; replace HO_4 := Aside0.mk (Kd.R_below (pr HO_4) hb); replace HO_7 := Aside0.mk (Kd.R_below (pr HO_7) hb); replace HO_274001 := Aside0.mk (Kd.R_below (pr HO_274001) hb); replace BK259 := nk BK259 hb; replace BK273 := nk BK273 hb; replace HB := bs hb; (try clear hb); have hnb63 := NB259_273.out; have hnc63 := NB273_259.out; have hcz64_0 := bc BK259 0 (.int .i64 a0_0); have hcz64_1 := bc BK259 1 (.slice A0_1 l0_1.length c0_1); have hfz64_0 := blk_frozen BK259.out 0; have hfz64_1 := blk_frozen BK259.out 1) | ((with_reducible refine gate_callee (f := 29) rfl ?_); refine gl (some 75) Tryd.func29 #[.agg #[.int .i64 a0_0, .slice A0_1 l0_1.length c0_1]] ?_; (with_reducible refine (laws_toPuzzle.calls kj36 a0_0 _ _ l0_1 t290 t291 _ ?side1 ?side2 A57.out).mono ?_); (case side1 => repeat (first | exact (Kd.C_below HR0_1.out HB.out) | (with_reducible refine Kd.C_alloc ?_ _) | (with_reducible refine Kd.C_drewN ?_ _) | (with_reducible refine Kd.C_drew ?_))); (case side2 => exact HC0_1.out); rintro e w65 ⟨v292, rfl, ho0, hb⟩; refine ⟨_, rfl, ?_⟩; replace HO_4 := Aside0.mk (Kd.R_below (pr HO_4) hb); replace HO_7 := Aside0.mk (Kd.R_below (pr HO_7) hb); have HO293 := Aside0.mk (Kd.R_lower (Kd.R_new' ho0 (Kd.R_lt (pr HO_274001))) (below_size bw)); replace HO_274001 := Aside0.mk (Kd.R_elder' (pr HO_274001) (Kd.R_base ho0) hb); replace BK259 := nk BK259 hb; replace BK273 := nk BK273 hb; replace HB := bs hb; (try clear hb); (try clear ho0); obtain ⟨Ao66, co66, eo66⟩ := Kd.R_slice HO293.out; subst eo66) | ((with_reducible refine gate_callee (f := 45) rfl ?_); refine gl (some 76) Tryd.func45 #[.agg #[.int .i64 t290, .slice Ao66 t291.length co66]] ?_; (with_reducible refine (impl_Solutions.calls kj36 t290 _ _ t291 t294 t297 _ ?side1 ?side2 ?side3 A58.out).mono ?_); (case side1 => first | exact HMM.out | exact Dr.Tab.below HMM.out bw | (repeat (first | exact HMM.out | apply Dr.Tab.drewN | apply Dr.Tab.drew | apply Dr.Tab.alloc))); (case side2 => repeat (first | exact (Kd.R_reads' HO293.out).2.2 | (with_reducible refine Kd.C_alloc ?_ _) | (with_reducible refine Kd.C_drewN ?_ _) | (with_reducible refine Kd.C_drew ?_))); (case side3 => exact (Kd.R_reads' HO293.out).2.1); rintro e w67 ⟨v295, rfl, ho0, hb⟩; refine ⟨_, rfl, ?_⟩; replace HO_274001 := Aside0.mk (Kd.R_below (pr HO_274001) hb); replace HO293 := Aside0.mk (Kd.R_below (pr HO293) hb); have HO296 := Aside0.mk (Kd.R_lower (Kd.R_new' (Kd.R_new' ho0 (Kd.R_lt (pr HO_4))) (Kd.R_lt (pr HO_7))) (below_size bw)); replace HO_4 := Aside0.mk (Kd.R_elder' (pr HO_4) (Kd.R_base ho0) hb); replace HO_7 := Aside0.mk (Kd.R_elder' (pr HO_7) (Kd.R_base ho0) hb); replace BK259 := nk BK259 hb; replace BK273 := nk BK273 hb; replace HB := bs hb; (try clear hb); (try clear ho0)))
           (try simp only [Act.put, List.setIfInBounds_toArray, List.set_cons_zero, List.set_cons_succ])
           go_cut [87] (fun v87 wc => ∃ (kq : Nat) (x87_58 : Bool), v87 = .bool x87_58 ∧ Aside0 (laws_FnExactSolutions.j2 kq t288 t287 x87_58 = some r) ∧ Aside0 (kq ≤ kj36) ∧ Aside0 (Kd.R Kd.string 9 wc w.heap.size (fun _ => True) (.slice Ao60 t274.length co60) t288) ∧ Aside0 (Kd.R k33 33 wc w.heap.size (fun _ => True) (.slice Ao24 t285.length co24) t285) ∧ Aside0 (wc.heap[gb259]? = some (.cells #[.int .i64 a0_0, (.slice A0_1 l0_1.length c0_1)] 46 (0, 0))) ∧ Aside0 (wc.heap[gb273]? = some (.cells #[.int .i64 t269, (.slice Ao24 t285.length co24)] 38 (0, 0))) ∧ Aside0 (Below w.heap.size w wc))
           case first =>
            have H := HC59.out
            clear HC59
            replace H := Option.bind_eq_some_iff.mp H
            obtain ⟨t298, A680, H⟩ := H
            (try dsimp only at H)
            have A68 := Aside0.mk A680
            clear A680
            by_cases c69 : t298 = true
            ·subst c69
             rw [if_pos rfl] at H
             have H' := Aside0.mk H
             clear H
             obtain ⟨Ao70, co70, eo70⟩ := Kd.R_slice HO296.out
             subst eo70
             obtain ⟨Ao71, co71, eo71⟩ := Kd.R_slice HO_4.out
             subst eo71
             go_wp2_with (first | ((with_reducible refine gate_callee (f := 46) rfl ?_); refine gl (some 81) Tryd.func46 #[.slice Ao70 t294.length co70, .slice Ao71 t265.length co71] ?_; (with_reducible refine (laws_eqStringS.calls kj36 _ _ t294 _ _ t265 true _ ?side1 ?side2 ?side3 ?side4 A68.out).mono ?_); (case side1 => repeat (first | exact (Kd.R_reads' HO296.out).2.2 | (with_reducible refine Kd.C_alloc ?_ _) | (with_reducible refine Kd.C_drewN ?_ _) | (with_reducible refine Kd.C_drew ?_))); (case side2 => exact (Kd.R_reads' HO296.out).2.1); (case side3 => repeat (first | exact (Kd.R_reads' HO_4.out).2.2 | (with_reducible refine Kd.C_alloc ?_ _) | (with_reducible refine Kd.C_drewN ?_ _) | (with_reducible refine Kd.C_drew ?_))); (case side4 => exact (Kd.R_reads' HO_4.out).2.1); rintro e w' ⟨rfl, ⟨nd, rfl⟩⟩; refine ⟨_, rfl, ?_⟩))
             go_meet
             case rel => exact ⟨_, ((t297 != t268)), (rs), H', ⟨by have := HJ10.out; have := HJ36.out; first | omega | exact Nat.le_refl _⟩, ⟨by (try simp only [hl274001_36]); (with_reducible repeat (first | apply Kd.R_alloc | apply Kd.R_drewN | apply Kd.R_drew)); exact Kd.R_mono HO_7.out (fun _ hk => trivial)⟩, ⟨by (try simp only [hl274001_36]); (with_reducible repeat (first | apply Kd.R_alloc | apply Kd.R_drewN | apply Kd.R_drew)); exact Kd.R_mono HO_274001.out (fun _ hk => trivial)⟩, ⟨by (try simp only [hl274001_36]); (with_reducible repeat (first | refine blk_drewN ?_ _ | refine blk_drew ?_ | refine blk_alloc ?_ _)); exact BK259.out⟩, ⟨by (try simp only [hl274001_36]); (with_reducible repeat (first | refine blk_drewN ?_ _ | refine blk_drew ?_ | refine blk_alloc ?_ _)); exact BK273.out⟩, ⟨bw⟩⟩
            ·replace c69 := Bool.eq_false_iff.mpr c69
             subst c69
             rw [if_neg (show ¬ (false = true) by decide)] at H
             have H' := Aside0.mk H
             clear H
             obtain ⟨Ao72, co72, eo72⟩ := Kd.R_slice HO296.out
             subst eo72
             obtain ⟨Ao73, co73, eo73⟩ := Kd.R_slice HO_4.out
             subst eo73
             go_wp2_with (first | ((with_reducible refine gate_callee (f := 46) rfl ?_); refine gl (some 81) Tryd.func46 #[.slice Ao72 t294.length co72, .slice Ao73 t265.length co73] ?_; (with_reducible refine (laws_eqStringS.calls kj36 _ _ t294 _ _ t265 false _ ?side1 ?side2 ?side3 ?side4 A68.out).mono ?_); (case side1 => repeat (first | exact (Kd.R_reads' HO296.out).2.2 | (with_reducible refine Kd.C_alloc ?_ _) | (with_reducible refine Kd.C_drewN ?_ _) | (with_reducible refine Kd.C_drew ?_))); (case side2 => exact (Kd.R_reads' HO296.out).2.1); (case side3 => repeat (first | exact (Kd.R_reads' HO_4.out).2.2 | (with_reducible refine Kd.C_alloc ?_ _) | (with_reducible refine Kd.C_drewN ?_ _) | (with_reducible refine Kd.C_drew ?_))); (case side4 => exact (Kd.R_reads' HO_4.out).2.1); rintro e w' ⟨rfl, ⟨nd, rfl⟩⟩; refine ⟨_, rfl, ?_⟩))
             go_meet
             case rel => exact ⟨_, (true), (rs), H', ⟨by have := HJ10.out; have := HJ36.out; first | omega | exact Nat.le_refl _⟩, ⟨by (try simp only [hl274001_36]); (with_reducible repeat (first | apply Kd.R_alloc | apply Kd.R_drewN | apply Kd.R_drew)); exact Kd.R_mono HO_7.out (fun _ hk => trivial)⟩, ⟨by (try simp only [hl274001_36]); (with_reducible repeat (first | apply Kd.R_alloc | apply Kd.R_drewN | apply Kd.R_drew)); exact Kd.R_mono HO_274001.out (fun _ hk => trivial)⟩, ⟨by (try simp only [hl274001_36]); (with_reducible repeat (first | refine blk_drewN ?_ _ | refine blk_drew ?_ | refine blk_alloc ?_ _)); exact BK259.out⟩, ⟨by (try simp only [hl274001_36]); (with_reducible repeat (first | refine blk_drewN ?_ _ | refine blk_drew ?_ | refine blk_alloc ?_ _)); exact BK273.out⟩, ⟨bw⟩⟩
           case rest =>
            clear HC59
            try clear c1
            try clear c2
            try clear p2
            try clear c3
            try clear c3b0
            try clear c4
            try clear c5
            try clear c6
            try clear c12
            try clear c22
            try clear c24
            try clear c25
            try clear c27
            try clear c29
            try clear c32
            try clear c35
            try clear c42
            try clear c44
            try clear c45
            try clear c45b0
            try clear c46
            try clear c47
            try clear c48
            try clear c52
            try clear c55
            try clear c55b0
            try clear c56
            try clear c56b0
            try clear c56b1
            try clear c63
            try clear c69
            try clear hcz13_0
            try clear hcz13_1
            try clear hcz15_0
            try clear hcz15_1
            try clear hcz19_0
            try clear hcz19_1
            try clear hcz23_0
            try clear hcz23_1
            try clear hcz43_0
            try clear hcz43_1
            try clear hcz5_0
            try clear hcz5_1
            try clear hcz64_0
            try clear hcz64_1
            try clear hfz13_0
            try clear hfz13_1
            try clear hfz15_0
            try clear hfz15_1
            try clear hfz19_0
            try clear hfz19_1
            try clear hfz23_0
            try clear hfz23_1
            try clear hfz43_0
            try clear hfz43_1
            try clear hfz5_0
            try clear hfz5_1
            try clear hfz64_0
            try clear hfz64_1
            try clear p2
            obtain ⟨kq, x87_58, rfl, HA, HJ58, HO_7, HO_274001, BK259, BK273, HB⟩ := hcut
            have hl7_58 := (Kd.R_reads' HO_7.out).1
            rw [hl7_58] at HO_7
            (try simp only [hl7_58])
            (try simp only [hl7_58] at BK259)
            (try simp only [hl7_58] at BK273)
            (try simp only [hl7_58] at HO_274001)
            cases kq with
            | zero => exact absurd HA.out (by simp [laws_FnExactSolutions.j2])
            | succ kj58 =>
             have H := HA.out
             clear HA
             simp only [laws_FnExactSolutions.j2] at H
             by_cases c74 : x87_58 = true
             ·subst c74
              rw [if_pos rfl] at H
              exact absurd (Option.some.inj H) (by rw [HRT.out]; decide)
             ·replace c74 := Bool.eq_false_iff.mpr c74
              subst c74
              rw [if_neg (show ¬ (false = true) by decide)] at H
              replace H := Option.bind_eq_some_iff.mp H
              obtain ⟨t299, A750, H⟩ := H
              (try dsimp only at H)
              have A75 := Aside0.mk A750
              clear A750
              by_cases c76 : t299 < 0
              ·rw [if_pos c76] at H
               have c76b0 : decide (t299 < 0) = true := decide_eq_true c76
               clear c76
               exact absurd (Option.some.inj H) (by rw [HRT.out]; decide)
              ·rw [if_neg c76] at H
               have c76b0 : decide (t299 < 0) = false := decide_eq_false c76
               clear c76
               by_cases c77 : t299 = t287
               ·rw [if_pos c77] at H
                have c77b0 : (t299 == t287) = true := beq_iff_eq.mpr c77
                have c77b1 : (t299 != t287) = false := bne_eq_false_iff_eq.mpr c77
                clear c77
                obtain rfl := Option.some.inj H
                go_wp2_with (first | ((with_reducible refine gate_callee (f := 48) rfl ?_); refine gl (some 90) Tryd.func48 #[.slice Ao60 t288.length co60, .int .i64 1] ?_; (with_reducible refine (laws_heldStringS.calls kj58 _ _ t288 1 t299 _ ?side1 ?side2 A75.out).mono ?_); (case side1 => repeat (first | exact (Kd.R_reads' HO_7.out).2.2 | (with_reducible refine Kd.C_alloc ?_ _) | (with_reducible refine Kd.C_drewN ?_ _) | (with_reducible refine Kd.C_drew ?_))); (case side2 => exact (Kd.R_reads' HO_7.out).2.1); rintro e w78 ⟨rfl, hb⟩; refine ⟨_, rfl, ?_⟩; replace HO_7 := Aside0.mk (Kd.R_below (pr HO_7) hb); replace HO_274001 := Aside0.mk (Kd.R_below (pr HO_274001) hb); replace BK259 := nk BK259 hb; replace BK273 := nk BK273 hb; replace HB := bs hb; (try clear hb)))
                go_ret
                exact ⟨rs, bw⟩
               ·rw [if_neg c77] at H
                have c77b0 : (t299 == t287) = false := beq_eq_false_iff_ne.mpr c77
                have c77b1 : (t299 != t287) = true := bne_iff_ne.mpr c77
                exact absurd (Option.some.inj H) (by rw [HRT.out]; decide)
          ·rw [if_neg c56] at H
           have c56b0 : (t289 == t287) = false := beq_eq_false_iff_ne.mpr c56
           have c56b1 : (t289 != t287) = true := bne_iff_ne.mpr c56
           exact absurd (Option.some.inj H) (by rw [HRT.out]; decide)
     ·replace c35 := Bool.eq_false_iff.mpr c35
      subst c35
      rw [if_neg (show ¬ (false = true) by decide)] at H
      exact absurd (Option.some.inj H) (by rw [HRT.out]; decide)

end Go.Proofs.YtmindeeacfdonaaDoor.PFnExactSolutions
