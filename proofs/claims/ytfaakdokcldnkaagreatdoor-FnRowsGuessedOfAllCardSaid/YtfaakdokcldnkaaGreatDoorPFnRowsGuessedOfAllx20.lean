-- Laid by xprint, a program of this session that runs over the kit's print.
import Derived.Test.YtfaakdokcldnkaaGreatDoorPFnRowsGuessedOfAllx19
namespace Go.Proofs.YtfaakdokcldnkaaGreatDoor.PFnRowsGuessedOfAll
open Go.RowKit Go.Proofs.YtfaakdokcldnkaaGreatDoorW.PrintWords Go.Proofs.YtfaakdokcldnkaaGreatDoorW.PrintLast Go.Proofs.YtfaakdokcldnkaaGreatDoorW.PrintMore Go.Proofs.YtfaakdokcldnkaaGreatDoor.Sq
attribute [local go_sem] max2_int min2_int max_two min_two max_three min_three max_four min_four   -- for this text's walks alone
set_option linter.unusedVariables false
set_option linter.unusedSimpArgs false

/-! ### spec_ParsePuzzle: function 32 -/
def spec_ParsePuzzle.f (k : Nat) (a0 : ByteArray) : Option (Int × (List (S42)) × Bool) := (spec_pzParse.f k a0).bind fun bt482 => (if bt482.2.2 = true then (some (bt482.1, bt482.2.1, true)) else (some (0, ([] : List (S42)), false)))
theorem spec_ParsePuzzle.mono : ∀ a0 k, LeO (spec_ParsePuzzle.f k a0) (spec_ParsePuzzle.f (k + 1) a0) := by
  intro a0 k
  unfold spec_ParsePuzzle.f
  repeat' first
      | (with_reducible exact spec_pzParse.mono _ _)
      | (with_reducible exact LeO.refl _)
      | (with_reducible exact LeO.none _)
      | (with_reducible refine LeO.ite ?_ ?_)
      | (with_reducible refine LeO.bind ?_ (fun _ => ?_))
      | exact spec_pzParse.mono _ _
      | exact LeO.none _
      | refine LeO.ite ?_ ?_
      | refine LeO.bind ?_ (fun _ => ?_)
set_option maxHeartbeats 8000000 in
set_option maxRecDepth 100000 in
theorem spec_ParsePuzzle.calls (k : Nat) (a0 : ByteArray) (r1 : Int) (r2 : List (S42)) (r3 : Bool) (w : World) (h : spec_ParsePuzzle.f k a0 = some (r1, r2, r3)) :
  Calls Tryz.prog 32 #[.string a0] w fun e w' => ∃ v1_ : Value, e = .returned (.tuple #[.agg #[.int .i64 r1, v1_], .bool r3]) ∧ Kd.R k42 42 w' w.heap.size (fun _ => True) v1_ r2 ∧ Below w.heap.size w w' := by
 have hu24 := Tryz.underlying24
 have HB := Aside0.mk (Below.refl w.heap.size w)
 unfold spec_ParsePuzzle.f at h
 have H := h
 clear h
 obtain ⟨⟨t482, t483, t486⟩, A2, H⟩ := ob H
 (try dsimp only at H)
 by_cases c3 : t486 = true
 ·subst c3
  rw [if_pos rfl] at H
  simp only [Option.some.injEq, Prod.mk.injEq] at H
  obtain ⟨rfl, rfl, rfl⟩ := H
  go_enter Tryz.func32, Tryz.ntmps32
  go_wp2_with (first | ((with_reducible refine gd 2 ?_); refine bx 2 24 #[.int .i64 0, .slice none 0 0] ?_; intro gb481 hg w4 hbox hb; have BK481 := hbox; have GW481 := gs hg; have GE481 := gs hg; replace HB := bs hb; clear hb hbox hg) | ((with_reducible refine gc 49 ?_); refine gl (some 8) Tryz.func49 #[.string a0] ?_; (with_reducible refine (spec_pzParse.calls k a0 t482 t483 true _ A2.out).mono ?_); rintro e w5 ⟨v484, rfl, ho0, hb⟩; refine ⟨_, rfl, ?_⟩; have HO485 := Aside0.mk (Kd.R_lower ho0 (below_size bw)); replace BK481 := nk BK481 hb; replace HB := bs hb; (try clear hb); (try clear ho0)) | ((with_reducible refine gd 4 ?_); refine bx 4 24 #[.int .i64 0, .slice none 0 0] ?_; intro gb487 hg w6 hbox hb; replace HO485 := rl HO485 hb; have BK487 := hbox; have GW487 := gs hg; have GE487 := gs hg; replace HB := bs hb; have ⟨NB481_487, NB487_481⟩ := nn BK481 hg; replace BK481 := nk BK481 hb; clear hb hbox hg; have hnb7 := nb NB487_481; have hz8 := z2 BK487; obtain ⟨Ao9, co9, eo9⟩ := Kd.R_slice HO485.out; subst eo9; have hz10 := z2 BK481))
  refine bodyPost_ret (results_ct rfl _ _ gb481 24 #[.int .i64 t482, .slice Ao9 t483.length co9] (0, 0) _ rfl (pz BK481) Tryz.underlying24 rfl (by kernel_rfl)) rfl ?_
  exact ⟨_, rs, by (with_reducible repeat (first | apply Kd.R_alloc | apply Kd.R_drewN | apply Kd.R_drew)); exact Kd.R_mono (Kd.R_far (p := ⟨gb481, 1, none⟩) (Kd.R_far (p := ⟨gb481, 0, none⟩) (Kd.R_far (p := ⟨gb487, 1, none⟩) (Kd.R_far (p := ⟨gb487, 0, none⟩) (Kd.R_types (Kd.R_types HO485.out BK487.out (by decide)) BK481.out (by decide)) (fun _ hk => hk.1.2) (.int .i64 t482)) (fun _ hk => hk.1.2) (.slice Ao9 t483.length co9)) (fun _ hk => hk.2) (.int .i64 t482)) (fun _ hk => hk.2) (.slice Ao9 t483.length co9)) (fun _ hk => trivial), bw⟩
 replace c3 := Bool.eq_false_iff.mpr c3
 subst c3
 rw [if_neg (show ¬ (false = true) by decide)] at H
 simp only [Option.some.injEq, Prod.mk.injEq] at H
 obtain ⟨rfl, rfl, rfl⟩ := H
 go_enter Tryz.func32, Tryz.ntmps32
 go_wp2_with (first | ((with_reducible refine gd 2 ?_); refine bx 2 24 #[.int .i64 0, .slice none 0 0] ?_; intro gb481 hg w11 hbox hb; have BK481 := hbox; have GW481 := gs hg; have GE481 := gs hg; replace HB := bs hb; clear hb hbox hg) | ((with_reducible refine gc 49 ?_); refine gl (some 8) Tryz.func49 #[.string a0] ?_; (with_reducible refine (spec_pzParse.calls k a0 t482 t483 false _ A2.out).mono ?_); rintro e w12 ⟨v484, rfl, ho0, hb⟩; refine ⟨_, rfl, ?_⟩; have HO485 := Aside0.mk (Kd.R_lower ho0 (below_size bw)); replace BK481 := nk BK481 hb; replace HB := bs hb; (try clear hb); (try clear ho0)) | ((with_reducible refine gd 4 ?_); refine bx 4 24 #[.int .i64 0, .slice none 0 0] ?_; intro gb487 hg w13 hbox hb; replace HO485 := rl HO485 hb; have BK487 := hbox; have GW487 := gs hg; have GE487 := gs hg; replace HB := bs hb; have ⟨NB481_487, NB487_481⟩ := nn BK481 hg; replace BK481 := nk BK481 hb; clear hb hbox hg; have hnb14 := nb NB487_481; have hz15 := z2 BK487; obtain ⟨Ao16, co16, eo16⟩ := Kd.R_slice HO485.out; subst eo16; have hz17 := z2 BK481))
 refine bodyPost_ret (results_ct rfl _ _ gb481 24 #[.int .i64 0, .slice none 0 0] (0, 0) _ rfl (pz BK481) Tryz.underlying24 rfl (by kernel_rfl)) rfl ?_
 exact ⟨_, rs, by first | exact Kd.R_nil _ _ _ _ _ | exact Kd.N_nil _ _ _ _ _ | exact Kd.V_nil _ _ _ _ _ | exact Kd.Q_nil _ _ _ _ _ | exact Kd.S_nil _ _ _ _ _, bw⟩

end Go.Proofs.YtfaakdokcldnkaaGreatDoor.PFnRowsGuessedOfAll
