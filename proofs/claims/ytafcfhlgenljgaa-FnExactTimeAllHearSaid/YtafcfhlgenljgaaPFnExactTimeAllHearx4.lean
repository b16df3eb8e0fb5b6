-- Laid by xprint, a program of this session that runs over the kit's print.
import Derived.Test.YtafcfhlgenljgaaPFnExactTimeAllHearx0
import Derived.Test.YtafcfhlgenljgaaPFnExactTimeAllHearx1
import Derived.Test.YtafcfhlgenljgaaPFnExactTimeAllHearx3
namespace Go.Proofs.Ytafcfhlgenljgaa.PFnExactTimeAllHear
open Go.RowKit Go.Proofs.YtafcfhlgenljgaaW.PrintWords Go.Proofs.YtafcfhlgenljgaaW.PrintLast Go.Proofs.YtafcfhlgenljgaaW.PrintMore Go.Proofs.Ytafcfhlgenljgaa.Sq
attribute [local go_sem] max2_int min2_int max_two min_two max_three min_three max_four min_four   -- for this text's walks alone
set_option linter.unusedVariables false
set_option linter.unusedSimpArgs false

/-! ### laws_FnExactTimeAllHear: function 5 -/
def laws_FnExactTimeAllHear.j0 : Nat → List (S23) → List (S27) → Bool → Option (Bool)
  | 0, _, _, _ => none
  | k + 1, x1, x8, x38 => if x38 = true then (some false) else ((laws_toSignalS.f k x1).bind fun t179 => ((laws_eqSignalS.f k x8 t179).bind fun t182 => (if t182 = true then (some true) else (some false))))
def laws_FnExactTimeAllHear.f (k : Nat) (a0 : Int) (l1 : List (S23)) : Option (Bool) := (laws_szSignalS.f l1 1048576).bind fun t168 => (if t168 < 0 then (some true) else ((laws_toSignalS.f k l1).bind fun t169 => ((spec_TimeAllHear.f k a0 t169).bind fun bt172 => ((laws_toSignalS.f k l1).bind fun t174 => ((impl_TimeAllHear.f k a0 t174).bind fun bt177 => (if bt177.1 = bt172.1 then (laws_FnExactTimeAllHear.j0 k l1 t174 (bt177.2 != bt172.2)) else (laws_FnExactTimeAllHear.j0 k l1 t174 true)))))))
theorem laws_FnExactTimeAllHear.mono_l : ∀ k, (∀ y0 y1 y2, LeO (laws_FnExactTimeAllHear.j0 k y0 y1 y2) (laws_FnExactTimeAllHear.j0 (k + 1) y0 y1 y2))
  | 0 => fun _ _ _ r h => by simp [laws_FnExactTimeAllHear.j0] at h
  | k + 1 => by
    have ih0 := laws_FnExactTimeAllHear.mono_l k
    · intro y0 y1 y2
      unfold laws_FnExactTimeAllHear.j0
      repeat' first
      | (with_reducible exact ih0 _ _ _)
      | (with_reducible exact impl_TimeAllHear.mono _ _ _)
      | (with_reducible exact laws_eqSignalS.mono _ _ _)
      | (with_reducible exact laws_toSignalS.mono _ _)
      | (with_reducible exact spec_TimeAllHear.mono _ _ _)
      | (with_reducible exact LeO.refl _)
      | (with_reducible exact LeO.none _)
      | (with_reducible refine LeO.ite ?_ ?_)
      | (with_reducible refine LeO.bind ?_ (fun _ => ?_))
      | exact ih0 _ _ _
      | exact impl_TimeAllHear.mono _ _ _
      | exact laws_eqSignalS.mono _ _ _
      | exact laws_toSignalS.mono _ _
      | exact spec_TimeAllHear.mono _ _ _
      | exact LeO.none _
      | refine LeO.ite ?_ ?_
      | refine LeO.bind ?_ (fun _ => ?_)
theorem laws_FnExactTimeAllHear.mono : ∀ a0 a1 k, LeO (laws_FnExactTimeAllHear.f k a0 a1) (laws_FnExactTimeAllHear.f (k + 1) a0 a1) := by
  intro a0 a1 k
  have ih0 := laws_FnExactTimeAllHear.mono_l k
  unfold laws_FnExactTimeAllHear.f
  repeat' first
      | (with_reducible exact ih0 _ _ _)
      | (with_reducible exact impl_TimeAllHear.mono _ _ _)
      | (with_reducible exact laws_eqSignalS.mono _ _ _)
      | (with_reducible exact laws_toSignalS.mono _ _)
      | (with_reducible exact spec_TimeAllHear.mono _ _ _)
      | (with_reducible exact LeO.refl _)
      | (with_reducible exact LeO.none _)
      | (with_reducible refine LeO.ite ?_ ?_)
      | (with_reducible refine LeO.bind ?_ (fun _ => ?_))
      | exact ih0 _ _ _
      | exact impl_TimeAllHear.mono _ _ _
      | exact laws_eqSignalS.mono _ _ _
      | exact laws_toSignalS.mono _ _
      | exact spec_TimeAllHear.mono _ _ _
      | exact LeO.none _
      | refine LeO.ite ?_ ?_
      | refine LeO.bind ?_ (fun _ => ?_)
set_option maxHeartbeats 8000000 in
set_option maxRecDepth 100000 in
theorem laws_FnExactTimeAllHear.calls (k : Nat) (a0 : Int) (A1 : Option Addr) (c1 : Nat) (l1 : List (S23)) (r : Bool) (w : World) (hr1 : Kd.C k23 w A1 l1.length l1) (hc1 : l1.length ≤ c1) (hrt : r = true) (h : laws_FnExactTimeAllHear.f k a0 l1 = some r) :
  Calls Try.prog 5 #[.int .i64 a0, .slice A1 l1.length c1] w fun e w' => e = .returned (.bool r) ∧ Below w.heap.size w w' := by
 have HR1 := Aside0.mk hr1
 have HC1 := Aside0.mk hc1
 clear hr1 hc1
 have HB := Aside0.mk (Below.refl w.heap.size w)
 have HRT := Aside0.mk hrt
 clear hrt
 unfold laws_FnExactTimeAllHear.f at h
 have H := h
 clear h
 replace H := Option.bind_eq_some_iff.mp H
 obtain ⟨t168, A30, H⟩ := H
 (try dsimp only at H)
 have A3 := Aside0.mk A30
 clear A30
 by_cases c4 : t168 < 0
 ·rw [if_pos c4] at H
  have c4b0 : decide (t168 < 0) = true := decide_eq_true c4
  clear c4
  obtain rfl := Option.some.inj H
  go_enter Try.func5, Try.ntmps5
  go_wp2_with (first | ((with_reducible refine gate_callee (f := 16) rfl ?_); refine gl (some 13) Try.func16 #[.slice A1 l1.length c1, .int .i64 1048576] ?_; (with_reducible refine (laws_szSignalS.calls _ _ l1 1048576 t168 _ ?side1 ?side2 A3.out).mono ?_); (case side1 => repeat (first | exact HR1.out | (with_reducible refine Kd.C_alloc ?_ _) | (with_reducible refine Kd.C_drewN ?_ _) | (with_reducible refine Kd.C_drew ?_))); (case side2 => exact HC1.out); rintro e w' ⟨rfl, ⟨nd, rfl⟩⟩; refine ⟨_, rfl, ?_⟩))
  go_ret
  exact ⟨rs, bw⟩
 ·rw [if_neg c4] at H
  have c4b0 : decide (t168 < 0) = false := decide_eq_false c4
  clear c4
  replace H := Option.bind_eq_some_iff.mp H
  obtain ⟨t169, A50, H⟩ := H
  (try dsimp only at H)
  have A5 := Aside0.mk A50
  clear A50
  replace H := Option.bind_eq_some_iff.mp H
  obtain ⟨⟨t172, t173⟩, A60, H⟩ := H
  (try dsimp only at H)
  have A6 := Aside0.mk A60
  clear A60
  replace H := Option.bind_eq_some_iff.mp H
  obtain ⟨t174, A70, H⟩ := H
  (try dsimp only at H)
  have A7 := Aside0.mk A70
  clear A70
  replace H := Option.bind_eq_some_iff.mp H
  obtain ⟨⟨t177, t178⟩, A80, H⟩ := H
  (try dsimp only at H)
  have A8 := Aside0.mk A80
  clear A80
  have HC9 := Aside0.mk H
  clear H
  go_enter Try.func5, Try.ntmps5
  go_upto_region 8 with (first | ((with_reducible refine gate_callee (f := 16) rfl ?_); refine gl (some 13) Try.func16 #[.slice A1 l1.length c1, .int .i64 1048576] ?_; (with_reducible refine (laws_szSignalS.calls _ _ l1 1048576 t168 _ ?side1 ?side2 A3.out).mono ?_); (case side1 => repeat (first | exact HR1.out | (with_reducible refine Kd.C_alloc ?_ _) | (with_reducible refine Kd.C_drewN ?_ _) | (with_reducible refine Kd.C_drew ?_))); (case side2 => exact HC1.out); rintro e w' ⟨rfl, ⟨nd, rfl⟩⟩; refine ⟨_, rfl, ?_⟩) | ((with_reducible refine gate_callee (f := 18) rfl ?_); refine gl (some 19) Try.func18 #[.slice A1 l1.length c1] ?_; (with_reducible refine (laws_toSignalS.calls k _ _ l1 t169 _ ?side1 ?side2 A5.out).mono ?_); (case side1 => repeat (first | exact HR1.out | (with_reducible refine Kd.C_alloc ?_ _) | (with_reducible refine Kd.C_drewN ?_ _) | (with_reducible refine Kd.C_drew ?_))); (case side2 => exact HC1.out); rintro e w10 ⟨v170, rfl, ho0, hb⟩; refine ⟨_, rfl, ?_⟩; have HO171 := Aside0.mk (Kd.R_lower ho0 (below_size bw)); replace HB := bs hb; (try clear hb); (try clear ho0); obtain ⟨Ao11, co11, eo11⟩ := Kd.R_slice HO171.out; subst eo11) | ((with_reducible refine gate_callee (f := 17) rfl ?_); refine gl (some 20) Try.func17 #[.int .i64 a0, .slice Ao11 t169.length co11] ?_; (with_reducible refine (spec_TimeAllHear.calls k a0 _ _ t169 t172 t173 _ ?side1 ?side2 A6.out).mono ?_); (case side1 => repeat (first | exact (Kd.R_reads' HO171.out).2.2 | (with_reducible refine Kd.C_alloc ?_ _) | (with_reducible refine Kd.C_drewN ?_ _) | (with_reducible refine Kd.C_drew ?_))); (case side2 => exact (Kd.R_reads' HO171.out).2.1); rintro e w12 ⟨rfl, hb⟩; refine ⟨_, rfl, ?_⟩; replace HO171 := Aside0.mk (Kd.R_below (pr HO171) hb); replace HB := bs hb; (try clear hb)) | ((with_reducible refine gate_callee (f := 18) rfl ?_); refine gl (some 24) Try.func18 #[.slice A1 l1.length c1] ?_; (with_reducible refine (laws_toSignalS.calls k _ _ l1 t174 _ ?side1 ?side2 A7.out).mono ?_); (case side1 => repeat (first | exact (Kd.C_below HR1.out HB.out) | (with_reducible refine Kd.C_alloc ?_ _) | (with_reducible refine Kd.C_drewN ?_ _) | (with_reducible refine Kd.C_drew ?_))); (case side2 => exact HC1.out); rintro e w13 ⟨v175, rfl, ho0, hb⟩; refine ⟨_, rfl, ?_⟩; have HO176 := Aside0.mk (Kd.R_lower (Kd.R_new' ho0 (Kd.R_lt (pr HO171))) (below_size bw)); replace HO171 := Aside0.mk (Kd.R_elder' (pr HO171) (Kd.R_base ho0) hb); replace HB := bs hb; (try clear hb); (try clear ho0); obtain ⟨Ao14, co14, eo14⟩ := Kd.R_slice HO176.out; subst eo14) | ((with_reducible refine gate_callee (f := 19) rfl ?_); refine gl (some 28) Try.func19 #[.int .i64 a0, .slice Ao14 t174.length co14] ?_; (with_reducible refine (impl_TimeAllHear.calls k a0 _ _ t174 t177 t178 _ ?side1 ?side2 A8.out).mono ?_); (case side1 => repeat (first | exact (Kd.R_reads' HO176.out).2.2 | (with_reducible refine Kd.C_alloc ?_ _) | (with_reducible refine Kd.C_drewN ?_ _) | (with_reducible refine Kd.C_drew ?_))); (case side2 => exact (Kd.R_reads' HO176.out).2.1); rintro e w15 ⟨rfl, hb⟩; refine ⟨_, rfl, ?_⟩; replace HO171 := Aside0.mk (Kd.R_below (pr HO171) hb); replace HO176 := Aside0.mk (Kd.R_below (pr HO176) hb); replace HB := bs hb; (try clear hb)))
  (try simp only [Act.put, List.setIfInBounds_toArray, List.set_cons_zero, List.set_cons_succ])
  go_cut [38] (fun v38 wc => ∃ (kq : Nat) (x38_8 : Bool), v38 = .bool x38_8 ∧ Aside0 (laws_FnExactTimeAllHear.j0 kq l1 t174 x38_8 = some r) ∧ Aside0 (kq ≤ k) ∧ Aside0 (Kd.R k27 27 wc w.heap.size (fun _ => True) (.slice Ao14 t174.length co14) t174) ∧ Aside0 (Below w.heap.size w wc))
  case first =>
   have H := HC9.out
   clear HC9
   by_cases c16 : t177 = t172
   ·rw [if_pos c16] at H
    have c16b0 : (t177 == t172) = true := beq_iff_eq.mpr c16
    have c16b1 : (t177 != t172) = false := bne_eq_false_iff_eq.mpr c16
    clear c16
    (first | rw [c16b0] | (simp only [i64_w, i32_w]; rw [c16b0]) | skip)
    have H' := Aside0.mk H
    clear H
    go_wp2
    go_meet
    case rel => exact ⟨_, ((t178 != t173)), (rs), H', ⟨by first | omega | exact Nat.le_refl _⟩, ⟨by (with_reducible repeat (first | apply Kd.R_alloc | apply Kd.R_drewN | apply Kd.R_drew)); exact Kd.R_mono HO176.out (fun _ hk => trivial)⟩, ⟨bw⟩⟩
   ·rw [if_neg c16] at H
    have c16b0 : (t177 == t172) = false := beq_eq_false_iff_ne.mpr c16
    have c16b1 : (t177 != t172) = true := bne_iff_ne.mpr c16
    (first | rw [c16b0] | (simp only [i64_w, i32_w]; rw [c16b0]) | skip)
    have H' := Aside0.mk H
    clear H
    go_wp2
    go_meet
    case rel => exact ⟨_, (true), (rs), H', ⟨by first | omega | exact Nat.le_refl _⟩, ⟨by (with_reducible repeat (first | apply Kd.R_alloc | apply Kd.R_drewN | apply Kd.R_drew)); exact Kd.R_mono HO176.out (fun _ hk => trivial)⟩, ⟨bw⟩⟩
  case rest =>
   clear HC9
   try clear c1
   try clear p2
   try clear c4
   try clear c4b0
   try clear c5
   try clear c16
   try clear c16b0
   try clear c16b1
   obtain ⟨kq, x38_8, rfl, HA, HJ8, HO_8, HB⟩ := hcut
   cases kq with
   | zero => exact absurd HA.out (by simp [laws_FnExactTimeAllHear.j0])
   | succ kj8 =>
    have H := HA.out
    clear HA
    simp only [laws_FnExactTimeAllHear.j0] at H
    by_cases c17 : x38_8 = true
    ·subst c17
     rw [if_pos rfl] at H
     exact absurd (Option.some.inj H) (by rw [HRT.out]; decide)
    ·replace c17 := Bool.eq_false_iff.mpr c17
     subst c17
     rw [if_neg (show ¬ (false = true) by decide)] at H
     replace H := Option.bind_eq_some_iff.mp H
     obtain ⟨t179, A180, H⟩ := H
     (try dsimp only at H)
     have A18 := Aside0.mk A180
     clear A180
     replace H := Option.bind_eq_some_iff.mp H
     obtain ⟨t182, A190, H⟩ := H
     (try dsimp only at H)
     have A19 := Aside0.mk A190
     clear A190
     by_cases c20 : t182 = true
     ·subst c20
      rw [if_pos rfl] at H
      obtain rfl := Option.some.inj H
      go_wp2_with (first | ((with_reducible refine gate_callee (f := 18) rfl ?_); refine gl (some 41) Try.func18 #[.slice A1 l1.length c1] ?_; (with_reducible refine (laws_toSignalS.calls kj8 _ _ l1 t179 _ ?side1 ?side2 A18.out).mono ?_); (case side1 => repeat (first | exact (Kd.C_below HR1.out HB.out) | (with_reducible refine Kd.C_alloc ?_ _) | (with_reducible refine Kd.C_drewN ?_ _) | (with_reducible refine Kd.C_drew ?_))); (case side2 => exact HC1.out); rintro e w21 ⟨v180, rfl, ho0, hb⟩; refine ⟨_, rfl, ?_⟩; have HO181 := Aside0.mk (Kd.R_lower (Kd.R_new' ho0 (Kd.R_lt (pr HO_8))) (below_size bw)); replace HO_8 := Aside0.mk (Kd.R_elder' (pr HO_8) (Kd.R_base ho0) hb); replace HB := bs hb; (try clear hb); (try clear ho0); obtain ⟨Ao22, co22, eo22⟩ := Kd.R_slice HO181.out; subst eo22) | ((with_reducible refine gate_callee (f := 20) rfl ?_); refine gl (some 42) Try.func20 #[.slice Ao14 t174.length co14, .slice Ao22 t179.length co22] ?_; (with_reducible refine (laws_eqSignalS.calls kj8 _ _ t174 _ _ t179 true _ ?side1 ?side2 ?side3 ?side4 A19.out).mono ?_); (case side1 => repeat (first | exact (Kd.R_reads' HO_8.out).2.2 | (with_reducible refine Kd.C_alloc ?_ _) | (with_reducible refine Kd.C_drewN ?_ _) | (with_reducible refine Kd.C_drew ?_))); (case side2 => exact (Kd.R_reads' HO_8.out).2.1); (case side3 => repeat (first | exact (Kd.R_reads' HO181.out).2.2 | (with_reducible refine Kd.C_alloc ?_ _) | (with_reducible refine Kd.C_drewN ?_ _) | (with_reducible refine Kd.C_drew ?_))); (case side4 => exact (Kd.R_reads' HO181.out).2.1); rintro e w23 ⟨rfl, hb⟩; refine ⟨_, rfl, ?_⟩; replace HO_8 := Aside0.mk (Kd.R_below (pr HO_8) hb); replace HO181 := Aside0.mk (Kd.R_below (pr HO181) hb); replace HB := bs hb; (try clear hb)))
      go_ret
      exact ⟨rs, bw⟩
     ·replace c20 := Bool.eq_false_iff.mpr c20
      subst c20
      rw [if_neg (show ¬ (false = true) by decide)] at H
      exact absurd (Option.some.inj H) (by rw [HRT.out]; decide)

end Go.Proofs.Ytafcfhlgenljgaa.PFnExactTimeAllHear
