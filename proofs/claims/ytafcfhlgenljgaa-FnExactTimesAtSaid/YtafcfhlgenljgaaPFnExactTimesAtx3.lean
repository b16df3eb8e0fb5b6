-- Laid by xprint, a program of this session that runs over the kit's print.
import Derived.Test.YtafcfhlgenljgaaPFnExactTimesAtx0
import Derived.Test.YtafcfhlgenljgaaPFnExactTimesAtx1
import Derived.Test.YtafcfhlgenljgaaPFnExactTimesAtx2
namespace Go.Proofs.Ytafcfhlgenljgaa.PFnExactTimesAt
open Go.RowKit Go.Proofs.YtafcfhlgenljgaaW.PrintWords Go.Proofs.YtafcfhlgenljgaaW.PrintLast Go.Proofs.YtafcfhlgenljgaaW.PrintMore Go.Proofs.Ytafcfhlgenljgaa.Sq
attribute [local go_sem] max2_int min2_int max_two min_two max_three min_three max_four min_four   -- for this text's walks alone
set_option linter.unusedVariables false
set_option linter.unusedSimpArgs false

/-! ### laws_FnExactTimesAt: function 3 -/
mutual
def laws_FnExactTimesAt.j0 : Nat → Int → Int → Int → List Int → Bool → List Int → Bool → Int → Bool → Int → Option (Bool)
  | 0, _, _, _, _, _, _, _, _, _, _ => none
  | k + 1, x0, x2, x3, x9, x10, x11, x43, x147000, x147001, x147002 => if x43 = true then (some false) else ((laws_markIntS.f k x11 1).bind fun bt162 => ((laws_heldIntS.f k bt162.2 1).bind fun t164 => (if t164 < 0 then (some false) else (if t164 = bt162.1 then ((laws_toSignal.f x147000 x147001 x147002).bind fun bt165 => ((impl_TimesAt.f k x0 bt165.1 bt165.2.1 bt165.2.2 x2 x3).bind fun bt168 => ((laws_eqIntS.f k bt168.1 x9).bind fun t172 => (if t172 = true then (laws_FnExactTimesAt.j1 k bt162.2 bt162.1 (bt168.2 != x10)) else (laws_FnExactTimesAt.j1 k bt162.2 bt162.1 true))))) else (some false)))))
def laws_FnExactTimesAt.j1 : Nat → List Int → Int → Bool → Option (Bool)
  | 0, _, _, _ => none
  | k + 1, x11, x13, x72 => if x72 = true then (some false) else ((laws_heldIntS.f k x11 1).bind fun t173 => (if t173 < 0 then (some false) else (if t173 = x13 then (some true) else (some false))))
end
def laws_FnExactTimesAt.f (k : Nat) (a0 : Int) (a1_0 : Int) (a1_1 : Bool) (a1_2 : Int) (a2 : Int) (a3 : Int) : Option (Bool) := (laws_toSignal.f a1_0 a1_1 a1_2).bind fun bt147 => ((spec_TimesAt.f k a0 bt147.1 bt147.2.1 bt147.2.2 a2 a3).bind fun bt150 => ((laws_toSignal.f a1_0 a1_1 a1_2).bind fun bt154 => ((impl_TimesAt.f k a0 bt154.1 bt154.2.1 bt154.2.2 a2 a3).bind fun bt157 => ((laws_eqIntS.f k bt157.1 bt150.1).bind fun t161 => (if t161 = true then (laws_FnExactTimesAt.j0 k a0 a2 a3 bt150.1 bt150.2 bt157.1 (bt157.2 != bt150.2) a1_0 a1_1 a1_2) else (laws_FnExactTimesAt.j0 k a0 a2 a3 bt150.1 bt150.2 bt157.1 true a1_0 a1_1 a1_2))))))
theorem laws_FnExactTimesAt.mono_l : ∀ k, (∀ y0 y1 y2 y3 y4 y5 y6 y7 y8 y9, LeO (laws_FnExactTimesAt.j0 k y0 y1 y2 y3 y4 y5 y6 y7 y8 y9) (laws_FnExactTimesAt.j0 (k + 1) y0 y1 y2 y3 y4 y5 y6 y7 y8 y9)) ∧ (∀ y0 y1 y2, LeO (laws_FnExactTimesAt.j1 k y0 y1 y2) (laws_FnExactTimesAt.j1 (k + 1) y0 y1 y2))
  | 0 => ⟨fun _ _ _ _ _ _ _ _ _ _ r h => by simp [laws_FnExactTimesAt.j0] at h, fun _ _ _ r h => by simp [laws_FnExactTimesAt.j1] at h⟩
  | k + 1 => by
    obtain ⟨ih0, ih1⟩ := laws_FnExactTimesAt.mono_l k
    refine ⟨?_, ?_⟩
    · intro y0 y1 y2 y3 y4 y5 y6 y7 y8 y9
      unfold laws_FnExactTimesAt.j0
      repeat' first
      | (with_reducible exact ih0 _ _ _ _ _ _ _ _ _ _)
      | (with_reducible exact ih1 _ _ _)
      | (with_reducible exact impl_TimesAt.mono _ _ _ _ _ _ _)
      | (with_reducible exact laws_eqIntS.mono _ _ _)
      | (with_reducible exact laws_heldIntS.mono _ _ _)
      | (with_reducible exact laws_markIntS.mono _ _ _)
      | (with_reducible exact spec_TimesAt.mono _ _ _ _ _ _ _)
      | (with_reducible exact LeO.refl _)
      | (with_reducible exact LeO.none _)
      | (with_reducible refine LeO.ite ?_ ?_)
      | (with_reducible refine LeO.bind ?_ (fun _ => ?_))
      | exact ih0 _ _ _ _ _ _ _ _ _ _
      | exact ih1 _ _ _
      | exact impl_TimesAt.mono _ _ _ _ _ _ _
      | exact laws_eqIntS.mono _ _ _
      | exact laws_heldIntS.mono _ _ _
      | exact laws_markIntS.mono _ _ _
      | exact spec_TimesAt.mono _ _ _ _ _ _ _
      | exact LeO.none _
      | refine LeO.ite ?_ ?_
      | refine LeO.bind ?_ (fun _ => ?_)
    · intro y0 y1 y2
      unfold laws_FnExactTimesAt.j1
      repeat' first
      | (with_reducible exact ih0 _ _ _ _ _ _ _ _ _ _)
      | (with_reducible exact ih1 _ _ _)
      | (with_reducible exact impl_TimesAt.mono _ _ _ _ _ _ _)
      | (with_reducible exact laws_eqIntS.mono _ _ _)
      | (with_reducible exact laws_heldIntS.mono _ _ _)
      | (with_reducible exact laws_markIntS.mono _ _ _)
      | (with_reducible exact spec_TimesAt.mono _ _ _ _ _ _ _)
      | (with_reducible exact LeO.refl _)
      | (with_reducible exact LeO.none _)
      | (with_reducible refine LeO.ite ?_ ?_)
      | (with_reducible refine LeO.bind ?_ (fun _ => ?_))
      | exact ih0 _ _ _ _ _ _ _ _ _ _
      | exact ih1 _ _ _
      | exact impl_TimesAt.mono _ _ _ _ _ _ _
      | exact laws_eqIntS.mono _ _ _
      | exact laws_heldIntS.mono _ _ _
      | exact laws_markIntS.mono _ _ _
      | exact spec_TimesAt.mono _ _ _ _ _ _ _
      | exact LeO.none _
      | refine LeO.ite ?_ ?_
      | refine LeO.bind ?_ (fun _ => ?_)
theorem laws_FnExactTimesAt.mono : ∀ a0 a1 a2 a3 a4 a5 k, LeO (laws_FnExactTimesAt.f k a0 a1 a2 a3 a4 a5) (laws_FnExactTimesAt.f (k + 1) a0 a1 a2 a3 a4 a5) := by
  intro a0 a1 a2 a3 a4 a5 k
  obtain ⟨ih0, ih1⟩ := laws_FnExactTimesAt.mono_l k
  unfold laws_FnExactTimesAt.f
  repeat' first
      | (with_reducible exact ih0 _ _ _ _ _ _ _ _ _ _)
      | (with_reducible exact ih1 _ _ _)
      | (with_reducible exact impl_TimesAt.mono _ _ _ _ _ _ _)
      | (with_reducible exact laws_eqIntS.mono _ _ _)
      | (with_reducible exact laws_heldIntS.mono _ _ _)
      | (with_reducible exact laws_markIntS.mono _ _ _)
      | (with_reducible exact spec_TimesAt.mono _ _ _ _ _ _ _)
      | (with_reducible exact LeO.refl _)
      | (with_reducible exact LeO.none _)
      | (with_reducible refine LeO.ite ?_ ?_)
      | (with_reducible refine LeO.bind ?_ (fun _ => ?_))
      | exact ih0 _ _ _ _ _ _ _ _ _ _
      | exact ih1 _ _ _
      | exact impl_TimesAt.mono _ _ _ _ _ _ _
      | exact laws_eqIntS.mono _ _ _
      | exact laws_heldIntS.mono _ _ _
      | exact laws_markIntS.mono _ _ _
      | exact spec_TimesAt.mono _ _ _ _ _ _ _
      | exact LeO.none _
      | refine LeO.ite ?_ ?_
      | refine LeO.bind ?_ (fun _ => ?_)
set_option maxHeartbeats 8000000 in
set_option maxRecDepth 100000 in
theorem laws_FnExactTimesAt.calls (k : Nat) (a0 : Int) (a1_0 : Int) (a1_1 : Bool) (a1_2 : Int) (a2 : Int) (a3 : Int) (r : Bool) (w : World) (hrt : r = true) (h : laws_FnExactTimesAt.f k a0 a1_0 a1_1 a1_2 a2 a3 = some r) :
  Calls Try.prog 3 #[.int .i64 a0, .agg #[.int .i64 a1_0, .bool a1_1, .int .i64 a1_2], .int .i64 a2, .int .i64 a3] w fun e w' => e = .returned (.bool r) ∧ Below w.heap.size w w' := by
 have hu23 := Try.underlying23
 have HB := Aside0.mk (Below.refl w.heap.size w)
 have HRT := Aside0.mk hrt
 clear hrt
 unfold laws_FnExactTimesAt.f at h
 have H := h
 clear h
 replace H := Option.bind_eq_some_iff.mp H
 obtain ⟨⟨t147, t148, t149⟩, A50, H⟩ := H
 (try dsimp only at H)
 have A5 := Aside0.mk A50
 clear A50
 replace H := Option.bind_eq_some_iff.mp H
 obtain ⟨⟨t150, t153⟩, A60, H⟩ := H
 (try dsimp only at H)
 have A6 := Aside0.mk A60
 clear A60
 replace H := Option.bind_eq_some_iff.mp H
 obtain ⟨⟨t154, t155, t156⟩, A70, H⟩ := H
 (try dsimp only at H)
 have A7 := Aside0.mk A70
 clear A70
 replace H := Option.bind_eq_some_iff.mp H
 obtain ⟨⟨t157, t160⟩, A80, H⟩ := H
 (try dsimp only at H)
 have A8 := Aside0.mk A80
 clear A80
 have HC9 := Aside0.mk H
 clear H
 go_enter Try.func3, Try.ntmps3
 go_upto_region 3 with (first | ((with_reducible refine gate_dst (N := 5) rfl ?_); refine bx 5 23 #[.int .i64 a1_0, .bool a1_1, .int .i64 a1_2] ?_; intro gb146 hg w10 hbox hb; have BK146 := hbox; have GW146 := gs hg; have GE146 := gs hg; replace HB := bs hb; clear hb hbox hg; have hcz11_0 := bc BK146 0 (.int .i64 a1_0); have hcz11_1 := bc BK146 1 (.bool a1_1); have hcz11_2 := bc BK146 2 (.int .i64 a1_2); have hfz11_0 := blk_frozen BK146.out 0; have hfz11_1 := blk_frozen BK146.out 1; have hfz11_2 := blk_frozen BK146.out 2) | ((with_reducible refine gate_callee (f := 8) rfl ?_); refine gl (some 20) Try.func8 #[.agg #[.int .i64 a1_0, .bool a1_1, .int .i64 a1_2]] ?_; (with_reducible refine (laws_toSignal.calls a1_0 a1_1 a1_2 t147 t148 t149 _ A5.out).mono ?_); rintro e w12 ⟨rfl, hb⟩; refine ⟨_, rfl, ?_⟩; replace BK146 := nk BK146 hb; replace HB := bs hb; (try clear hb)) | ((with_reducible refine gate_callee (f := 7) rfl ?_); refine gl (some 23) Try.func7 #[.int .i64 a0, .agg #[.int .i64 t147, .bool t148, .int .i64 t149], .int .i64 a2, .int .i64 a3] ?_; (with_reducible refine (spec_TimesAt.calls k a0 t147 t148 t149 a2 a3 t150 t153 _ A6.out).mono ?_); rintro e w13 ⟨v151, rfl, ho0, hb⟩; refine ⟨_, rfl, ?_⟩; have HO152 := Aside0.mk (Kd.R_lower ho0 (below_size bw)); replace BK146 := nk BK146 hb; replace HB := bs hb; (try clear hb); (try clear ho0); have hcz14_0 := bc BK146 0 (.int .i64 a1_0); have hcz14_1 := bc BK146 1 (.bool a1_1); have hcz14_2 := bc BK146 2 (.int .i64 a1_2); have hfz14_0 := blk_frozen BK146.out 0; have hfz14_1 := blk_frozen BK146.out 1; have hfz14_2 := blk_frozen BK146.out 2) | ((with_reducible refine gate_callee (f := 8) rfl ?_); refine gl (some 29) Try.func8 #[.agg #[.int .i64 a1_0, .bool a1_1, .int .i64 a1_2]] ?_; (with_reducible refine (laws_toSignal.calls a1_0 a1_1 a1_2 t154 t155 t156 _ A7.out).mono ?_); rintro e w15 ⟨rfl, hb⟩; refine ⟨_, rfl, ?_⟩; replace HO152 := Aside0.mk (Kd.R_below (pr HO152) hb); replace BK146 := nk BK146 hb; replace HB := bs hb; (try clear hb)) | ((with_reducible refine gate_callee (f := 9) rfl ?_); refine gl (some 32) Try.func9 #[.int .i64 a0, .agg #[.int .i64 t154, .bool t155, .int .i64 t156], .int .i64 a2, .int .i64 a3] ?_; (with_reducible refine (impl_TimesAt.calls k a0 t154 t155 t156 a2 a3 t157 t160 _ A8.out).mono ?_); rintro e w16 ⟨v158, rfl, ho0, hb⟩; refine ⟨_, rfl, ?_⟩; have HO159 := Aside0.mk (Kd.R_lower (Kd.R_new' ho0 (Kd.R_lt (pr HO152))) (below_size bw)); replace HO152 := Aside0.mk (Kd.R_elder' (pr HO152) (Kd.R_base ho0) hb); replace BK146 := nk BK146 hb; replace HB := bs hb; (try clear hb); (try clear ho0)))
 (try simp only [Act.put, List.setIfInBounds_toArray, List.set_cons_zero, List.set_cons_succ])
 go_cut [43] (fun v43 wc => ∃ (kq : Nat) (x43_8 : Bool), v43 = .bool x43_8 ∧ Aside0 (laws_FnExactTimesAt.j0 kq a0 a2 a3 t150 t153 t157 x43_8 a1_0 a1_1 a1_2 = some r) ∧ Aside0 (kq ≤ k) ∧ Aside0 (Kd.R (Kd.int .i64) 3 wc w.heap.size (fun k_ => some k_ ≠ (v158 : Value).ownBlock) v151 t150) ∧ Aside0 (Kd.R (Kd.int .i64) 3 wc w.heap.size (fun k_ => some k_ ≠ (v151 : Value).ownBlock) v158 t157) ∧ Aside0 (wc.heap[gb146]? = some (.cells #[.int .i64 a1_0, .bool a1_1, .int .i64 a1_2] 23 (0, 0))) ∧ Aside0 (Below w.heap.size w wc))
 case first =>
  have H := HC9.out
  clear HC9
  replace H := Option.bind_eq_some_iff.mp H
  obtain ⟨t161, A170, H⟩ := H
  (try dsimp only at H)
  have A17 := Aside0.mk A170
  clear A170
  by_cases c18 : t161 = true
  ·subst c18
   rw [if_pos rfl] at H
   have H' := Aside0.mk H
   clear H
   obtain ⟨Ao19, co19, eo19⟩ := Kd.R_slice HO159.out
   subst eo19
   obtain ⟨Ao20, co20, eo20⟩ := Kd.R_slice HO152.out
   subst eo20
   go_wp2_with (first | ((with_reducible refine gate_callee (f := 10) rfl ?_); refine gl (some 37) Try.func10 #[.slice Ao19 t157.length co19, .slice Ao20 t150.length co20] ?_; (with_reducible refine (laws_eqIntS.calls k _ _ t157 _ _ t150 true _ ?side1 ?side2 ?side3 ?side4 A17.out).mono ?_); (case side1 => repeat (first | exact (Kd.R_reads' HO159.out).2.2 | (with_reducible refine Kd.C_alloc ?_ _) | (with_reducible refine Kd.C_drewN ?_ _) | (with_reducible refine Kd.C_drew ?_))); (case side2 => exact (Kd.R_reads' HO159.out).2.1); (case side3 => repeat (first | exact (Kd.R_reads' HO152.out).2.2 | (with_reducible refine Kd.C_alloc ?_ _) | (with_reducible refine Kd.C_drewN ?_ _) | (with_reducible refine Kd.C_drew ?_))); (case side4 => exact (Kd.R_reads' HO152.out).2.1); rintro e w' ⟨rfl, ⟨nd, rfl⟩⟩; refine ⟨_, rfl, ?_⟩))
   go_meet
   case rel => exact ⟨_, ((t160 != t153)), (rs), H', ⟨by first | omega | exact Nat.le_refl _⟩, ⟨by (with_reducible repeat (first | apply Kd.R_alloc | apply Kd.R_drewN | apply Kd.R_drew)); exact Kd.R_mono HO152.out (fun _ hk => hk.2)⟩, ⟨by (with_reducible repeat (first | apply Kd.R_alloc | apply Kd.R_drewN | apply Kd.R_drew)); exact Kd.R_mono HO159.out (fun _ hk => hk.2)⟩, ⟨pk BK146⟩, ⟨bw⟩⟩
  ·replace c18 := Bool.eq_false_iff.mpr c18
   subst c18
   rw [if_neg (show ¬ (false = true) by decide)] at H
   have H' := Aside0.mk H
   clear H
   obtain ⟨Ao21, co21, eo21⟩ := Kd.R_slice HO159.out
   subst eo21
   obtain ⟨Ao22, co22, eo22⟩ := Kd.R_slice HO152.out
   subst eo22
   go_wp2_with (first | ((with_reducible refine gate_callee (f := 10) rfl ?_); refine gl (some 37) Try.func10 #[.slice Ao21 t157.length co21, .slice Ao22 t150.length co22] ?_; (with_reducible refine (laws_eqIntS.calls k _ _ t157 _ _ t150 false _ ?side1 ?side2 ?side3 ?side4 A17.out).mono ?_); (case side1 => repeat (first | exact (Kd.R_reads' HO159.out).2.2 | (with_reducible refine Kd.C_alloc ?_ _) | (with_reducible refine Kd.C_drewN ?_ _) | (with_reducible refine Kd.C_drew ?_))); (case side2 => exact (Kd.R_reads' HO159.out).2.1); (case side3 => repeat (first | exact (Kd.R_reads' HO152.out).2.2 | (with_reducible refine Kd.C_alloc ?_ _) | (with_reducible refine Kd.C_drewN ?_ _) | (with_reducible refine Kd.C_drew ?_))); (case side4 => exact (Kd.R_reads' HO152.out).2.1); rintro e w' ⟨rfl, ⟨nd, rfl⟩⟩; refine ⟨_, rfl, ?_⟩))
   go_meet
   case rel => exact ⟨_, (true), (rs), H', ⟨by first | omega | exact Nat.le_refl _⟩, ⟨by (with_reducible repeat (first | apply Kd.R_alloc | apply Kd.R_drewN | apply Kd.R_drew)); exact Kd.R_mono HO152.out (fun _ hk => hk.2)⟩, ⟨by (with_reducible repeat (first | apply Kd.R_alloc | apply Kd.R_drewN | apply Kd.R_drew)); exact Kd.R_mono HO159.out (fun _ hk => hk.2)⟩, ⟨pk BK146⟩, ⟨bw⟩⟩
 case rest =>
  clear HC9
  try clear c1
  try clear p2
  try clear c3
  try clear c7
  try clear c8
  try clear c9
  try clear c10
  try clear c18
  try clear hcz11_0
  try clear hcz11_1
  try clear hcz11_2
  try clear hcz14_0
  try clear hcz14_1
  try clear hcz14_2
  try clear hfz11_0
  try clear hfz11_1
  try clear hfz11_2
  try clear hfz14_0
  try clear hfz14_1
  try clear hfz14_2
  obtain ⟨kq, x43_8, rfl, HA, HJ8, HO_9, HO_11, BK146, HB⟩ := hcut
  cases kq with
  | zero => exact absurd HA.out (by simp [laws_FnExactTimesAt.j0])
  | succ kj8 =>
   have H := HA.out
   clear HA
   simp only [laws_FnExactTimesAt.j0] at H
   by_cases c23 : x43_8 = true
   ·subst c23
    rw [if_pos rfl] at H
    exact absurd (Option.some.inj H) (by rw [HRT.out]; decide)
   ·replace c23 := Bool.eq_false_iff.mpr c23
    subst c23
    rw [if_neg (show ¬ (false = true) by decide)] at H
    replace H := Option.bind_eq_some_iff.mp H
    obtain ⟨⟨t162, t163⟩, A240, H⟩ := H
    (try dsimp only at H)
    have A24 := Aside0.mk A240
    clear A240
    replace H := Option.bind_eq_some_iff.mp H
    obtain ⟨t164, A250, H⟩ := H
    (try dsimp only at H)
    have A25 := Aside0.mk A250
    clear A250
    by_cases c26 : t164 < 0
    ·rw [if_pos c26] at H
     have c26b0 : decide (t164 < 0) = true := decide_eq_true c26
     clear c26
     exact absurd (Option.some.inj H) (by rw [HRT.out]; decide)
    ·rw [if_neg c26] at H
     have c26b0 : decide (t164 < 0) = false := decide_eq_false c26
     clear c26
     by_cases c27 : t164 = t162
     ·rw [if_pos c27] at H
      have c27b0 : (t164 == t162) = true := beq_iff_eq.mpr c27
      have c27b1 : (t164 != t162) = false := bne_eq_false_iff_eq.mpr c27
      clear c27
      replace H := Option.bind_eq_some_iff.mp H
      obtain ⟨⟨t165, t166, t167⟩, A280, H⟩ := H
      (try dsimp only at H)
      have A28 := Aside0.mk A280
      clear A280
      replace H := Option.bind_eq_some_iff.mp H
      obtain ⟨⟨t168, t171⟩, A290, H⟩ := H
      (try dsimp only at H)
      have A29 := Aside0.mk A290
      clear A290
      have HC30 := Aside0.mk H
      clear H
      obtain ⟨Ao31, co31, eo31⟩ := Kd.R_slice HO_11.out
      subst eo31
      go_upto_region 14 with (first | ((with_reducible refine gate_callee (f := 11) rfl ?_); refine gl (some 46) Try.func11 #[.slice Ao31 t157.length co31, .int .i64 1] ?_; (with_reducible refine (laws_markIntS.calls kj8 (fun k_ => some k_ = (.slice Ao31 t157.length co31 : Value).ownBlock) (.slice Ao31 t157.length co31) t157 1 t162 t163 w _ ?side1 ?side2 A24.out).mono ?_); (case side1 => repeat (first | (with_reducible first | exact HB.out | apply below_alloc | apply pw_below_drewN | apply below_drew1 | refine below_set ?_ GE146.out) | exact HB.out)); (case side2 => exact Kd.R_tight rfl HO_11.out); rintro e w32 ⟨rfl, hy0, hb, hkp⟩; refine ⟨_, rfl, ?_⟩; replace HO_9 := Aside0.mk (Kd.R_mono (ok' := fun k_ => some k_ ≠ (.slice Ao31 t157.length co31 : Value).ownBlock) (Kd.R_keptB (HO_9.out) hkp (fun k_ hk_ hs_ => (hk_) hs_)) (fun k_ hk_ => hk_.1)); replace BK146 := Aside0.mk (blk_kept (pk BK146) hkp (fun hs_ => (fun e_ => (Kd.R_ne HO_11.out BK146.out (by decide)) e_) hs_)); replace HO_11 := Aside0.mk (Kd.R_reok rfl hy0 (fun k_ e_ => HO_11.out.1 k_ e_)); replace HB := Aside0.mk (hb); (try clear hb); (try clear hkp); (try clear hy0)) | ((with_reducible refine gate_callee (f := 12) rfl ?_); refine goesL_ (some 49) rfl rfl Try.func12 (by kernel_rfl) rfl #[.slice Ao31 t163.length co31, .int .i64 1] rfl (by (try simp only [List.map_toArray, List.map_cons, List.map_nil]); first | done | (rw [show t163.length = t157.length from (Kd.R_reads' HO_11.out).1.symm] <;> rfl) | rfl | (simp only [List.length_drop, List.length_take]; rfl)) ?_; (with_reducible refine (laws_heldIntS.calls kj8 _ _ t163 1 t164 _ ?side1 ?side2 A25.out).mono ?_); (case side1 => repeat (first | exact (Kd.R_reads' HO_11.out).2.2 | (with_reducible refine Kd.C_alloc ?_ _) | (with_reducible refine Kd.C_drewN ?_ _) | (with_reducible refine Kd.C_drew ?_))); (case side2 => rw [show t163.length = t157.length from (Kd.R_reads' HO_11.out).1.symm]; exact (Kd.R_reads' HO_11.out).2.1); rintro e w' ⟨rfl, ⟨nd, rfl⟩⟩; refine ⟨_, rfl, ?_⟩; have hcz33_0 := bc BK146 0 (.int .i64 a1_0); have hcz33_1 := bc BK146 1 (.bool a1_1); have hcz33_2 := bc BK146 2 (.int .i64 a1_2); have hfz33_0 := blk_frozen BK146.out 0; have hfz33_1 := blk_frozen BK146.out 1; have hfz33_2 := blk_frozen BK146.out 2) | ((with_reducible refine gate_callee (f := 8) rfl ?_); refine gl (some 58) Try.func8 #[.agg #[.int .i64 a1_0, .bool a1_1, .int .i64 a1_2]] ?_; (with_reducible refine (laws_toSignal.calls a1_0 a1_1 a1_2 t165 t166 t167 _ A28.out).mono ?_); rintro e w34 ⟨rfl, hb⟩; refine ⟨_, rfl, ?_⟩; replace HO_9 := Aside0.mk (Kd.R_below (pr HO_9) hb); replace HO_11 := Aside0.mk (Kd.R_below (pr HO_11) hb); replace BK146 := nk BK146 hb; replace HB := bs hb; (try clear hb)) | ((with_reducible refine gate_callee (f := 9) rfl ?_); refine gl (some 61) Try.func9 #[.int .i64 a0, .agg #[.int .i64 t165, .bool t166, .int .i64 t167], .int .i64 a2, .int .i64 a3] ?_; (with_reducible refine (impl_TimesAt.calls kj8 a0 t165 t166 t167 a2 a3 t168 t171 _ A29.out).mono ?_); rintro e w35 ⟨v169, rfl, ho0, hb⟩; refine ⟨_, rfl, ?_⟩; have HO170 := Aside0.mk (Kd.R_lower (Kd.R_new' (Kd.R_new' ho0 (Kd.R_lt (pr HO_9))) (Kd.R_lt (pr HO_11))) (below_size bw)); replace HO_9 := Aside0.mk (Kd.R_elder' (pr HO_9) (Kd.R_base ho0) hb); replace HO_11 := Aside0.mk (Kd.R_elder' (pr HO_11) (Kd.R_base ho0) hb); replace BK146 := nk BK146 hb; replace HB := bs hb; (try clear hb); (try clear ho0)))
      (try simp only [Act.put, List.setIfInBounds_toArray, List.set_cons_zero, List.set_cons_succ])
      go_cut [72] (fun v72 wc => ∃ (kq : Nat) (x72_29 : Bool), v72 = .bool x72_29 ∧ Aside0 (laws_FnExactTimesAt.j1 kq t163 t162 x72_29 = some r) ∧ Aside0 (kq ≤ kj8) ∧ Aside0 (Kd.R (Kd.int .i64) 3 wc w.heap.size (fun _ => True) (.slice Ao31 t157.length co31) t163) ∧ Aside0 (wc.heap[gb146]? = some (.cells #[.int .i64 a1_0, .bool a1_1, .int .i64 a1_2] 23 (0, 0))) ∧ Aside0 (Below w.heap.size w wc))
      case first =>
       have H := HC30.out
       clear HC30
       replace H := Option.bind_eq_some_iff.mp H
       obtain ⟨t172, A360, H⟩ := H
       (try dsimp only at H)
       have A36 := Aside0.mk A360
       clear A360
       by_cases c37 : t172 = true
       ·subst c37
        rw [if_pos rfl] at H
        have H' := Aside0.mk H
        clear H
        obtain ⟨Ao38, co38, eo38⟩ := Kd.R_slice HO170.out
        subst eo38
        obtain ⟨Ao39, co39, eo39⟩ := Kd.R_slice HO_9.out
        subst eo39
        go_wp2_with (first | ((with_reducible refine gate_callee (f := 10) rfl ?_); refine gl (some 66) Try.func10 #[.slice Ao38 t168.length co38, .slice Ao39 t150.length co39] ?_; (with_reducible refine (laws_eqIntS.calls kj8 _ _ t168 _ _ t150 true _ ?side1 ?side2 ?side3 ?side4 A36.out).mono ?_); (case side1 => repeat (first | exact (Kd.R_reads' HO170.out).2.2 | (with_reducible refine Kd.C_alloc ?_ _) | (with_reducible refine Kd.C_drewN ?_ _) | (with_reducible refine Kd.C_drew ?_))); (case side2 => exact (Kd.R_reads' HO170.out).2.1); (case side3 => repeat (first | exact (Kd.R_reads' HO_9.out).2.2 | (with_reducible refine Kd.C_alloc ?_ _) | (with_reducible refine Kd.C_drewN ?_ _) | (with_reducible refine Kd.C_drew ?_))); (case side4 => exact (Kd.R_reads' HO_9.out).2.1); rintro e w' ⟨rfl, ⟨nd, rfl⟩⟩; refine ⟨_, rfl, ?_⟩))
        go_meet
        case rel => exact ⟨_, ((t171 != t153)), (rs), H', ⟨by have := HJ8.out; first | omega | exact Nat.le_refl _⟩, ⟨by (with_reducible repeat (first | apply Kd.R_alloc | apply Kd.R_drewN | apply Kd.R_drew)); exact Kd.R_mono HO_11.out (fun _ hk => trivial)⟩, ⟨pk BK146⟩, ⟨bw⟩⟩
       ·replace c37 := Bool.eq_false_iff.mpr c37
        subst c37
        rw [if_neg (show ¬ (false = true) by decide)] at H
        have H' := Aside0.mk H
        clear H
        obtain ⟨Ao40, co40, eo40⟩ := Kd.R_slice HO170.out
        subst eo40
        obtain ⟨Ao41, co41, eo41⟩ := Kd.R_slice HO_9.out
        subst eo41
        go_wp2_with (first | ((with_reducible refine gate_callee (f := 10) rfl ?_); refine gl (some 66) Try.func10 #[.slice Ao40 t168.length co40, .slice Ao41 t150.length co41] ?_; (with_reducible refine (laws_eqIntS.calls kj8 _ _ t168 _ _ t150 false _ ?side1 ?side2 ?side3 ?side4 A36.out).mono ?_); (case side1 => repeat (first | exact (Kd.R_reads' HO170.out).2.2 | (with_reducible refine Kd.C_alloc ?_ _) | (with_reducible refine Kd.C_drewN ?_ _) | (with_reducible refine Kd.C_drew ?_))); (case side2 => exact (Kd.R_reads' HO170.out).2.1); (case side3 => repeat (first | exact (Kd.R_reads' HO_9.out).2.2 | (with_reducible refine Kd.C_alloc ?_ _) | (with_reducible refine Kd.C_drewN ?_ _) | (with_reducible refine Kd.C_drew ?_))); (case side4 => exact (Kd.R_reads' HO_9.out).2.1); rintro e w' ⟨rfl, ⟨nd, rfl⟩⟩; refine ⟨_, rfl, ?_⟩))
        go_meet
        case rel => exact ⟨_, (true), (rs), H', ⟨by have := HJ8.out; first | omega | exact Nat.le_refl _⟩, ⟨by (with_reducible repeat (first | apply Kd.R_alloc | apply Kd.R_drewN | apply Kd.R_drew)); exact Kd.R_mono HO_11.out (fun _ hk => trivial)⟩, ⟨pk BK146⟩, ⟨bw⟩⟩
      case rest =>
       clear HC30
       try clear c1
       try clear c2
       try clear p2
       try clear c3
       try clear c7
       try clear c8
       try clear c9
       try clear c10
       try clear c11
       try clear c12
       try clear c18
       try clear c23
       try clear c26
       try clear c26b0
       try clear c27
       try clear c27b0
       try clear c27b1
       try clear c37
       try clear hcz11_0
       try clear hcz11_1
       try clear hcz11_2
       try clear hcz14_0
       try clear hcz14_1
       try clear hcz14_2
       try clear hcz33_0
       try clear hcz33_1
       try clear hcz33_2
       try clear hfz11_0
       try clear hfz11_1
       try clear hfz11_2
       try clear hfz14_0
       try clear hfz14_1
       try clear hfz14_2
       try clear hfz33_0
       try clear hfz33_1
       try clear hfz33_2
       try clear p2
       obtain ⟨kq, x72_29, rfl, HA, HJ29, HO_11, BK146, HB⟩ := hcut
       have hl11_29 := (Kd.R_reads' HO_11.out).1
       rw [hl11_29] at HO_11
       (try simp only [hl11_29])
       (try simp only [hl11_29] at BK146)
       cases kq with
       | zero => exact absurd HA.out (by simp [laws_FnExactTimesAt.j1])
       | succ kj29 =>
        have H := HA.out
        clear HA
        simp only [laws_FnExactTimesAt.j1] at H
        by_cases c42 : x72_29 = true
        ·subst c42
         rw [if_pos rfl] at H
         exact absurd (Option.some.inj H) (by rw [HRT.out]; decide)
        ·replace c42 := Bool.eq_false_iff.mpr c42
         subst c42
         rw [if_neg (show ¬ (false = true) by decide)] at H
         replace H := Option.bind_eq_some_iff.mp H
         obtain ⟨t173, A430, H⟩ := H
         (try dsimp only at H)
         have A43 := Aside0.mk A430
         clear A430
         by_cases c44 : t173 < 0
         ·rw [if_pos c44] at H
          have c44b0 : decide (t173 < 0) = true := decide_eq_true c44
          clear c44
          exact absurd (Option.some.inj H) (by rw [HRT.out]; decide)
         ·rw [if_neg c44] at H
          have c44b0 : decide (t173 < 0) = false := decide_eq_false c44
          clear c44
          by_cases c45 : t173 = t162
          ·rw [if_pos c45] at H
           have c45b0 : (t173 == t162) = true := beq_iff_eq.mpr c45
           have c45b1 : (t173 != t162) = false := bne_eq_false_iff_eq.mpr c45
           clear c45
           obtain rfl := Option.some.inj H
           go_wp2_with (first | ((with_reducible refine gate_callee (f := 12) rfl ?_); refine gl (some 75) Try.func12 #[.slice Ao31 t163.length co31, .int .i64 1] ?_; (with_reducible refine (laws_heldIntS.calls kj29 _ _ t163 1 t173 _ ?side1 ?side2 A43.out).mono ?_); (case side1 => repeat (first | exact (Kd.R_reads' HO_11.out).2.2 | (with_reducible refine Kd.C_alloc ?_ _) | (with_reducible refine Kd.C_drewN ?_ _) | (with_reducible refine Kd.C_drew ?_))); (case side2 => exact (Kd.R_reads' HO_11.out).2.1); rintro e w' ⟨rfl, ⟨nd, rfl⟩⟩; refine ⟨_, rfl, ?_⟩))
           go_ret
           exact ⟨rs, bw⟩
          ·rw [if_neg c45] at H
           have c45b0 : (t173 == t162) = false := beq_eq_false_iff_ne.mpr c45
           have c45b1 : (t173 != t162) = true := bne_iff_ne.mpr c45
           exact absurd (Option.some.inj H) (by rw [HRT.out]; decide)
     ·rw [if_neg c27] at H
      have c27b0 : (t164 == t162) = false := beq_eq_false_iff_ne.mpr c27
      have c27b1 : (t164 != t162) = true := bne_iff_ne.mpr c27
      exact absurd (Option.some.inj H) (by rw [HRT.out]; decide)

end Go.Proofs.Ytafcfhlgenljgaa.PFnExactTimesAt
