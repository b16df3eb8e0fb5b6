-- Laid by xprint, a program of this session that runs over the kit's print.
import Derived.Test.YteoklfgmdcofcaaDoorPFnOrdersTurnx0
import Derived.Test.YteoklfgmdcofcaaDoorPFnOrdersTurnx1
import Derived.Test.YteoklfgmdcofcaaDoorPFnOrdersTurnx2
import Derived.Test.YteoklfgmdcofcaaDoorPFnOrdersTurnx3
import Derived.Test.YteoklfgmdcofcaaDoorPFnOrdersTurnx7
namespace Go.Proofs.YteoklfgmdcofcaaDoor.PFnOrdersTurn
open Go.RowKit Go.Proofs.YteoklfgmdcofcaaDoorW.PrintWords Go.Proofs.YteoklfgmdcofcaaDoorW.PrintLast Go.Proofs.YteoklfgmdcofcaaDoorW.PrintMore Go.Proofs.YteoklfgmdcofcaaDoor.Sq
attribute [local go_sem] max2_int min2_int max_two min_two max_three min_three max_four min_four   -- for this text's walks alone
set_option linter.unusedVariables false
set_option linter.unusedSimpArgs false

/-! ### spec_odAround: function 49 -/
def spec_odAround.f (k : Nat) (a0 : ByteArray) (a1 : Int) : Option (ByteArray) := (spec_l1Most.f 0 (wrap64 (a1 - 1))).bind fun t325 => ((spec_l1Least.f (wrap64 ((a0.size : Int) - 1)) (wrap64 (a1 + 1))).bind fun t326 => ((spec_odTurn.f k a0 t325 t326).bind fun t327 => (some t327)))
theorem spec_odAround.mono : ∀ a0 a1 k, LeO (spec_odAround.f k a0 a1) (spec_odAround.f (k + 1) a0 a1) := by
  intro a0 a1 k
  unfold spec_odAround.f
  repeat' first
      | (with_reducible exact spec_odTurn.mono _ _ _ _)
      | (with_reducible exact LeO.refl _)
      | (with_reducible exact LeO.none _)
      | (with_reducible refine LeO.ite ?_ ?_)
      | (with_reducible refine LeO.bind ?_ (fun _ => ?_))
      | exact spec_odTurn.mono _ _ _ _
      | exact LeO.none _
      | refine LeO.ite ?_ ?_
      | refine LeO.bind ?_ (fun _ => ?_)
set_option maxHeartbeats 8000000 in
set_option maxRecDepth 100000 in
theorem spec_odAround.calls (k : Nat) (a0 : ByteArray) (a1 : Int) (r : ByteArray) (w : World) (h : spec_odAround.f k a0 a1 = some r) :
  Calls Tryd.prog 49 #[.string a0, .int .i64 a1] w fun e w' => e = .returned (.string r) ∧ Drawn0 w w' := by
 unfold spec_odAround.f at h
 have H := h
 clear h
 replace H := Option.bind_eq_some_iff.mp H
 obtain ⟨t325, A30, H⟩ := H
 (try dsimp only at H)
 have A3 := Aside0.mk A30
 clear A30
 replace H := Option.bind_eq_some_iff.mp H
 obtain ⟨t326, A40, H⟩ := H
 (try dsimp only at H)
 have A4 := Aside0.mk A40
 clear A40
 replace H := Option.bind_eq_some_iff.mp H
 obtain ⟨t327, A50, H⟩ := H
 (try dsimp only at H)
 have A5 := Aside0.mk A50
 clear A50
 obtain rfl := Option.some.inj H
 go_enter Tryd.func49, Tryd.ntmps49
 go_wp2_with (first | ((with_reducible refine gate_callee (f := 61) rfl ?_); refine gl (some 8) Tryd.func61 #[.int .i64 0, .int .i64 (wrap64 (a1 - 1))] ?_; (with_reducible refine (spec_l1Most.calls 0 (wrap64 (a1 - 1)) t325 _ A3.out).mono ?_); rintro e w' ⟨rfl, ⟨nd, rfl⟩⟩; refine ⟨_, rfl, ?_⟩) | ((with_reducible refine gate_callee (f := 62) rfl ?_); refine gl (some 14) Tryd.func62 #[.int .i64 (wrap64 ((a0.size : Int) - 1)), .int .i64 (wrap64 (a1 + 1))] ?_; (with_reducible refine (spec_l1Least.calls (wrap64 ((a0.size : Int) - 1)) (wrap64 (a1 + 1)) t326 _ A4.out).mono ?_); rintro e w' ⟨rfl, ⟨nd, rfl⟩⟩; refine ⟨_, rfl, ?_⟩) | ((with_reducible refine gate_callee (f := 47) rfl ?_); refine gl (some 15) Tryd.func47 #[.string a0, .int .i64 t325, .int .i64 t326] ?_; (with_reducible refine (spec_odTurn.calls k a0 t325 t326 t327 _ A5.out).mono ?_); rintro e w' ⟨rfl, ⟨nd, rfl⟩⟩; refine ⟨_, rfl, ?_⟩))
 go_ret
 exact ⟨rs, by repeat (first | exact Drawn0.refl _ | apply Drawn0.step)⟩

/-! ### spec_TurnAround: function 26 -/
def spec_TurnAround.f (k : Nat) (a0 : ByteArray) (a1 : Int) : Option (ByteArray × Bool) := (spec_odGood.f k a0).bind fun t328 => (if t328 = true then ((spec_l1In.f a1 0 (wrap64 ((a0.size : Int) - 1))).bind fun t329 => (if t329 = true then ((spec_odAround.f k a0 a1).bind fun t330 => (some (t330, true))) else (some ((⟨#[]⟩ : ByteArray), false)))) else (some ((⟨#[]⟩ : ByteArray), false)))
theorem spec_TurnAround.mono : ∀ a0 a1 k, LeO (spec_TurnAround.f k a0 a1) (spec_TurnAround.f (k + 1) a0 a1) := by
  intro a0 a1 k
  unfold spec_TurnAround.f
  repeat' first
      | (with_reducible exact spec_odAround.mono _ _ _)
      | (with_reducible exact spec_odGood.mono _ _)
      | (with_reducible exact LeO.refl _)
      | (with_reducible exact LeO.none _)
      | (with_reducible refine LeO.ite ?_ ?_)
      | (with_reducible refine LeO.bind ?_ (fun _ => ?_))
      | exact spec_odAround.mono _ _ _
      | exact spec_odGood.mono _ _
      | exact LeO.none _
      | refine LeO.ite ?_ ?_
      | refine LeO.bind ?_ (fun _ => ?_)
set_option maxHeartbeats 8000000 in
set_option maxRecDepth 100000 in
theorem spec_TurnAround.calls (k : Nat) (a0 : ByteArray) (a1 : Int) (r1 : ByteArray) (r2 : Bool) (w : World) (h : spec_TurnAround.f k a0 a1 = some (r1, r2)) :
  Calls Tryd.prog 26 #[.string a0, .int .i64 a1] w fun e w' => e = .returned (.tuple #[.string r1, .bool r2]) ∧ Drawn0 w w' := by
 unfold spec_TurnAround.f at h
 have H := h
 clear h
 replace H := Option.bind_eq_some_iff.mp H
 obtain ⟨t328, A30, H⟩ := H
 (try dsimp only at H)
 have A3 := Aside0.mk A30
 clear A30
 by_cases c4 : t328 = true
 ·subst c4
  rw [if_pos rfl] at H
  replace H := Option.bind_eq_some_iff.mp H
  obtain ⟨t329, A50, H⟩ := H
  (try dsimp only at H)
  have A5 := Aside0.mk A50
  clear A50
  by_cases c6 : t329 = true
  ·subst c6
   rw [if_pos rfl] at H
   replace H := Option.bind_eq_some_iff.mp H
   obtain ⟨t330, A70, H⟩ := H
   (try dsimp only at H)
   have A7 := Aside0.mk A70
   clear A70
   simp only [Option.some.injEq, Prod.mk.injEq] at H
   obtain ⟨rfl, rfl⟩ := H
   go_enter Tryd.func26, Tryd.ntmps26
   go_wp2_with (first | ((with_reducible refine gate_callee (f := 45) rfl ?_); refine gl (some 7) Tryd.func45 #[.string a0] ?_; (with_reducible refine (spec_odGood.calls k a0 true _ A3.out).mono ?_); rintro e w' ⟨rfl, ⟨nd, rfl⟩⟩; refine ⟨_, rfl, ?_⟩) | (go_at_call 46; (with_reducible refine (spec_l1In.calls a1 0 (wrap64 ((a0.size : Int) - 1)) true _ A5.out).mono ?_); rintro e w' ⟨rfl, ⟨nd, rfl⟩⟩) | ((with_reducible refine gate_callee (f := 49) rfl ?_); refine gl (some 19) Tryd.func49 #[.string a0, .int .i64 a1] ?_; (with_reducible refine (spec_odAround.calls k a0 a1 t330 _ A7.out).mono ?_); rintro e w' ⟨rfl, ⟨nd, rfl⟩⟩; refine ⟨_, rfl, ?_⟩))
   go_ret2
   exact ⟨rs, by repeat (first | exact Drawn0.refl _ | apply Drawn0.step)⟩
  ·replace c6 := Bool.eq_false_iff.mpr c6
   subst c6
   rw [if_neg (show ¬ (false = true) by decide)] at H
   simp only [Option.some.injEq, Prod.mk.injEq] at H
   obtain ⟨rfl, rfl⟩ := H
   go_enter Tryd.func26, Tryd.ntmps26
   go_wp2_with (first | ((with_reducible refine gate_callee (f := 45) rfl ?_); refine gl (some 7) Tryd.func45 #[.string a0] ?_; (with_reducible refine (spec_odGood.calls k a0 true _ A3.out).mono ?_); rintro e w' ⟨rfl, ⟨nd, rfl⟩⟩; refine ⟨_, rfl, ?_⟩) | (go_at_call 46; (with_reducible refine (spec_l1In.calls a1 0 (wrap64 ((a0.size : Int) - 1)) false _ A5.out).mono ?_); rintro e w' ⟨rfl, ⟨nd, rfl⟩⟩))
   go_ret2
   exact ⟨rs, by repeat (first | exact Drawn0.refl _ | apply Drawn0.step)⟩
 ·replace c4 := Bool.eq_false_iff.mpr c4
  subst c4
  rw [if_neg (show ¬ (false = true) by decide)] at H
  simp only [Option.some.injEq, Prod.mk.injEq] at H
  obtain ⟨rfl, rfl⟩ := H
  go_enter Tryd.func26, Tryd.ntmps26
  go_wp2_with (first | ((with_reducible refine gate_callee (f := 45) rfl ?_); refine gl (some 7) Tryd.func45 #[.string a0] ?_; (with_reducible refine (spec_odGood.calls k a0 false _ A3.out).mono ?_); rintro e w' ⟨rfl, ⟨nd, rfl⟩⟩; refine ⟨_, rfl, ?_⟩))
  go_ret2
  exact ⟨rs, by repeat (first | exact Drawn0.refl _ | apply Drawn0.step)⟩

/-! ### spec_DrawPlayRuns: function 27 -/
mutual
def spec_DrawPlayRuns.l0 : Nat → ByteArray → List (List Int) → Int → List Int → Int → Int → Option (ByteArray × (List (List Int)))
  | 0, _, _, _, _, _, _ => none
  | k + 1, x5, x6, x7, x332000, x332001, x332002 => if x7 > 0 then (spec_DrawPlayRuns.j1 k x5 x6 x7 (decide ((x5.size : Int) > 0)) x332000 x332001 x332002) else (spec_DrawPlayRuns.j1 k x5 x6 x7 false x332000 x332001 x332002)
def spec_DrawPlayRuns.j1 : Nat → ByteArray → List (List Int) → Int → Bool → List Int → Int → Int → Option (ByteArray × (List (List Int)))
  | 0, _, _, _, _, _, _, _ => none
  | k + 1, x5, x6, x7, x22, x332000, x332001, x332002 => if x22 = true then ((spec_l1Cur_pick.f x332000 x332001 x332002 (x5.size : Int)).bind fun bt338 => ((spec_l1Cur_pick.f x332000 bt338.2.1 bt338.2.2 (wrap64 ((x5.size : Int) - bt338.1))).bind fun bt341 => (if x6.length < 5864062014805 then (spec_DrawPlayRuns.l0 k x5 (x6 ++ [(([bt338.1, wrap64 (bt338.1 + bt341.1)] : List Int))]) (wrap64 (x7 - 1)) x332000 bt341.2.1 bt341.2.2) else (none)))) else ((spec_l1Cur_one.f x332000 x332001 x332002 8).bind fun bt350 => (if bt350.1 = true then ((some (([[], (([1] : List Int)), (([1, 0] : List Int)), (([(-1), 0] : List Int)), (([0, 99] : List Int)), (([0, 0, 0] : List Int))] : List (List Int)) : List (List Int))).bind fun y368 => ((spec_l1Cur_pick.f x332000 bt350.2.1 bt350.2.2 6).bind fun bt371 => (if 0 ≤ bt371.1 then (if bt371.1 < (y368.length : Int) then (if x6.length < 5864062014805 then (some (x5, (x6 ++ [rd_L3 y368 bt371.1]))) else (none)) else (none)) else (none)))) else (some (x5, x6))))
end
def spec_DrawPlayRuns.f (k : Nat) (l0 : List Int) : Option (ByteArray × (List (List Int))) := (spec_l1Cur_row.f k l0 0 0 14).bind fun bt332 => ((spec_l1Cur_pick.f l0 bt332.2.1 bt332.2.2 5).bind fun bt335 => (spec_DrawPlayRuns.l0 k bt332.1 ([] : List (List Int)) bt335.1 l0 bt335.2.1 bt335.2.2))
theorem spec_DrawPlayRuns.mono_l : ∀ k, (∀ y0 y1 y2 y3 y4 y5, LeO (spec_DrawPlayRuns.l0 k y0 y1 y2 y3 y4 y5) (spec_DrawPlayRuns.l0 (k + 1) y0 y1 y2 y3 y4 y5)) ∧ (∀ y0 y1 y2 y3 y4 y5 y6, LeO (spec_DrawPlayRuns.j1 k y0 y1 y2 y3 y4 y5 y6) (spec_DrawPlayRuns.j1 (k + 1) y0 y1 y2 y3 y4 y5 y6))
  | 0 => ⟨fun _ _ _ _ _ _ r h => by simp [spec_DrawPlayRuns.l0] at h, fun _ _ _ _ _ _ _ r h => by simp [spec_DrawPlayRuns.j1] at h⟩
  | k + 1 => by
    obtain ⟨ih0, ih1⟩ := spec_DrawPlayRuns.mono_l k
    refine ⟨?q0, ?q1⟩
    case' q0 => (intros; unfold spec_DrawPlayRuns.l0)
    case' q1 => (intros; unfold spec_DrawPlayRuns.j1)
    all_goals repeat' first
     | (with_reducible exact ih0 _ _ _ _ _ _)
     | (with_reducible exact ih1 _ _ _ _ _ _ _)
     | (with_reducible exact spec_l1Cur_row.mono _ _ _ _ _)
     | (with_reducible exact LeO.refl _)
     | (with_reducible exact LeO.none _)
     | (with_reducible refine LeO.ite ?_ ?_)
     | (with_reducible refine LeO.bind ?_ (fun _ => ?_))
     | exact ih0 _ _ _ _ _ _
     | exact ih1 _ _ _ _ _ _ _
     | exact spec_l1Cur_row.mono _ _ _ _ _
     | exact LeO.none _
     | refine LeO.ite ?_ ?_
     | refine LeO.bind ?_ (fun _ => ?_)
theorem spec_DrawPlayRuns.mono : ∀ a0 k, LeO (spec_DrawPlayRuns.f k a0) (spec_DrawPlayRuns.f (k + 1) a0) := by
  intro a0 k
  obtain ⟨ih0, ih1⟩ := spec_DrawPlayRuns.mono_l k
  unfold spec_DrawPlayRuns.f
  repeat' first
      | (with_reducible exact ih0 _ _ _ _ _ _)
      | (with_reducible exact ih1 _ _ _ _ _ _ _)
      | (with_reducible exact spec_l1Cur_row.mono _ _ _ _ _)
      | (with_reducible exact LeO.refl _)
      | (with_reducible exact LeO.none _)
      | (with_reducible refine LeO.ite ?_ ?_)
      | (with_reducible refine LeO.bind ?_ (fun _ => ?_))
      | exact ih0 _ _ _ _ _ _
      | exact ih1 _ _ _ _ _ _ _
      | exact spec_l1Cur_row.mono _ _ _ _ _
      | exact LeO.none _
      | refine LeO.ite ?_ ?_
      | refine LeO.bind ?_ (fun _ => ?_)
set_option maxHeartbeats 8000000 in
set_option maxRecDepth 100000 in
theorem spec_DrawPlayRuns.calls (k : Nat) (A0 : Option Addr) (c0 : Nat) (l0 : List Int) (r1 : ByteArray) (r2 : List (List Int)) (w : World) (hr0 : Kd.C (Kd.int .u8) w A0 l0.length l0) (hc0 : l0.length ≤ c0) (h : spec_DrawPlayRuns.f k l0 = some (r1, r2)) :
  Calls Tryd.prog 27 #[.slice A0 l0.length c0] w fun e w' => ∃ v1_ : Value, e = .returned (.tuple #[.string r1, v1_]) ∧ Kd.N (Kd.slice 3 (Kd.int .i64)) 31 w' w.heap.size (fun k_ => (w.heap.size ≤ k_)) v1_ r2 ∧ Below w.heap.size w w' := by
 have hu63 := Tryd.underlying63
 have HR0 := Aside0.mk hr0
 have HC0 := Aside0.mk hc0
 clear hr0 hc0
 have HB := Aside0.mk (Below.refl w.heap.size w)
 unfold spec_DrawPlayRuns.f at h
 have H := h
 clear h
 replace H := Option.bind_eq_some_iff.mp H
 obtain ⟨⟨t332, t333, t334⟩, A20, H⟩ := H
 (try dsimp only at H)
 have A2 := Aside0.mk A20
 clear A20
 replace H := Option.bind_eq_some_iff.mp H
 obtain ⟨⟨t335, t336, t337⟩, A30, H⟩ := H
 (try dsimp only at H)
 have A3 := Aside0.mk A30
 clear A30
 have H' := Aside0.mk H
 clear H
 go_enter Tryd.func27, Tryd.ntmps27
 go_wp2_with (first | ((with_reducible refine gate_dst (N := 11) rfl ?_); (try (refine gate_guard (by rfl) ?_; dsimp only)); refine box_event ?hg (N := 11) ?hd (cs := #[.slice A0 l0.length c0, .int .i64 0, .int .u64 0]) (t := 63) ?hr ?_; (case hd => rfl); (case hg => rfl); (case hr => first | (go_simp; done) | (go_simp; rfl)); intro gb331 hg w4 hbox hb; have GW331 := gs hg; have GE331 := gs hg; have HI331 := Aside0.mk ((show IsS63 w _ gb331 l0 0 0 from ⟨_, _, hbox, (by rw [hg]; exact (below_size bw)), HR0.out⟩)); replace HB := bs hb; clear hb hbox hg) | ((with_reducible refine gate_callee (f := 43) rfl ?_); refine gl (some 13) Tryd.func43 #[.pointer (some ⟨gb331, 0, none⟩), .int .i64 14] ?_; (with_reducible refine (spec_l1Cur_row.calls k gb331 l0 0 0 14 t332 t333 t334 w _ ?side1 ?side2 A2.out).mono ?_); (case side1 => exact hi63); (case side2 => exact hb63); rintro e w5 ⟨rfl, hi, hb, hk⟩; refine ⟨_, rfl, ?_⟩; replace HB := Aside0.mk (hb); replace HI331 := Aside0.mk (hi); (try clear hb)) | ((with_reducible refine gate_callee (f := 44) rfl ?_); refine gl (some 15) Tryd.func44 #[.pointer (some ⟨gb331, 0, none⟩), .int .i64 5] ?_; (with_reducible refine (spec_l1Cur_pick.calls gb331 l0 t333 t334 5 t335 t336 t337 w _ ?side1 ?side2 A3.out).mono ?_); (case side1 => exact hi63); (case side2 => exact hb63); rintro e w6 ⟨rfl, hi, hb, hk⟩; refine ⟨_, rfl, ?_⟩; replace HB := Aside0.mk (hb); replace HI331 := Aside0.mk (hi); (try clear hb)))
 go_loopg [6, 7] k (fun kq v6 v7 w' => ∃ (x6_1 : List (List Int)) (x7_1 : Int) (x332001_1 : Int) (x332002_1 : Int), v7 = .int .i64 x7_1 ∧ Aside0 (spec_DrawPlayRuns.l0 kq t332 x6_1 x7_1 l0 x332001_1 x332002_1 = some (r1, r2)) ∧ Aside0 (kq ≤ k) ∧ Aside0 (Kd.N (Kd.slice 3 (Kd.int .i64)) 31 w' w.heap.size (fun k_ => (w.heap.size ≤ k_) ∧ k_ ≠ gb331) v6 x6_1) ∧ Aside0 (IsS63 w w' gb331 l0 x332001_1 x332002_1) ∧ Aside0 (Below w.heap.size w w'))
 case atStart => exact ⟨(([] : List (List Int))), (t335), (t336), (t337), (rs), H', ⟨Nat.le_refl _⟩, ⟨by first | exact Kd.S_nil _ _ _ _ _ | exact Kd.N_nil _ _ _ _ _ | exact Kd.V_nil _ _ _ _ _ | exact Kd.Q_nil _ _ _ _ _ | exact Kd.R_nil _ _ _ _ _⟩, ⟨hi63⟩, ⟨hb63⟩⟩
 case round =>
  clear H'
  try clear c2
  try clear p2
  try clear c4
  obtain ⟨x6_1, x7_1, x332001_1, x332002_1, rfl, HA, HK1, HO_6, HI331, HB⟩ := hrel
  cases gk with
  | zero => exact absurd HA.out (by simp [spec_DrawPlayRuns.l0])
  | succ k1 =>
   have H := HA.out
   clear HA
   simp only [spec_DrawPlayRuns.l0] at H
   have HC7 := Aside0.mk H
   clear H
   go_upto_region 5 with (fail)
   go_cut [22] (fun v22 wc => ∃ (kq : Nat) (x22_6 : Bool), v22 = .bool x22_6 ∧ Aside0 (spec_DrawPlayRuns.j1 kq t332 x6_1 x7_1 x22_6 l0 x332001_1 x332002_1 = some (r1, r2)) ∧ Aside0 (kq ≤ k1) ∧ Aside0 (Kd.N (Kd.slice 3 (Kd.int .i64)) 31 wc w.heap.size (fun k_ => (w.heap.size ≤ k_) ∧ k_ ≠ gb331) u6 x6_1) ∧ Aside0 (IsS63 w wc gb331 l0 x332001_1 x332002_1) ∧ Aside0 (Below w.heap.size w wc))
   case first =>
    have H := HC7.out
    clear HC7
    by_cases c8 : x7_1 > 0
    ·rw [if_pos c8] at H
     have c8b0 : decide (0 < x7_1) = true := decide_eq_true c8
     clear c8
     (first | rw [c8b0] | rw [@decide_eq_true _ _ (of_decide_eq_true c8b1)] | rw [@decide_eq_false _ _ (of_decide_eq_false c8b1)] | (simp only [i64_w, i32_w]; rw [c8b0]) | skip)
     have H' := Aside0.mk H
     clear H
     go_wp2
     go_meet
     case rel => exact ⟨_, (decide ((t332.size : Int) > 0)), (rs), H', ⟨by have := HK1.out; first | omega | exact Nat.le_refl _⟩, ⟨by (with_reducible repeat (first | apply Kd.N_alloc | apply Kd.N_drewN | apply Kd.N_drew)); exact HO_6.out⟩, ⟨hi63⟩, ⟨hb63⟩⟩
    ·rw [if_neg c8] at H
     have c8b0 : decide (0 < x7_1) = false := decide_eq_false c8
     clear c8
     (first | rw [c8b0] | rw [@decide_eq_true _ _ (of_decide_eq_true c8b1)] | rw [@decide_eq_false _ _ (of_decide_eq_false c8b1)] | (simp only [i64_w, i32_w]; rw [c8b0]) | skip)
     have H' := Aside0.mk H
     clear H
     go_wp2
     go_meet
     case rel => exact ⟨_, (false), (rs), H', ⟨by have := HK1.out; first | omega | exact Nat.le_refl _⟩, ⟨by (with_reducible repeat (first | apply Kd.N_alloc | apply Kd.N_drewN | apply Kd.N_drew)); exact HO_6.out⟩, ⟨hi63⟩, ⟨hb63⟩⟩
   case rest =>
    clear HC7
    try clear c2
    try clear p2
    try clear c4
    try clear c8
    try clear c8b0
    try clear p2
    obtain ⟨kq, x22_6, rfl, HA, HJ6, HO_6, HI331, HB⟩ := hcut
    cases kq with
    | zero => exact absurd HA.out (by simp [spec_DrawPlayRuns.j1])
    | succ kj6 =>
     have H := HA.out
     clear HA
     simp only [spec_DrawPlayRuns.j1] at H
     by_cases c9 : x22_6 = true
     ·subst c9
      rw [if_pos rfl] at H
      replace H := Option.bind_eq_some_iff.mp H
      obtain ⟨⟨t338, t339, t340⟩, A100, H⟩ := H
      (try dsimp only at H)
      have A10 := Aside0.mk A100
      clear A100
      replace H := Option.bind_eq_some_iff.mp H
      obtain ⟨⟨t341, t342, t343⟩, A110, H⟩ := H
      (try dsimp only at H)
      have A11 := Aside0.mk A110
      clear A110
      obtain ⟨y344, hy344⟩ : ∃ y_ : List Int, y_ = (([t338, wrap64 (t338 + t341)] : List Int)) := ⟨_, rfl⟩
      replace H : (if x6_1.length < 5864062014805 then (spec_DrawPlayRuns.l0 kj6 t332 (x6_1 ++ [y344]) (wrap64 (x7_1 - 1)) l0 t342 t343) else (none)) = some (r1, r2) := by first | (rw [hy344]; with_reducible exact H) | (have H2_ := (Option.bind_some _ _).symm.trans H; rw [hy344]; with_reducible exact H2_) | (have H2_ := (Option.bind_some _ _).symm.trans H; with_reducible exact H2_) | with_reducible exact H | (rw [hy344]; exact H) | exact H
      have Ny344 := Aside0.mk hy344
      clear hy344
      by_cases c12 : x6_1.length < 5864062014805
      ·rw [if_pos c12] at H
       have LMc12 := Aside0.mk c12
       clear c12
       obtain ⟨y347, hy347⟩ : ∃ y_ : List (List Int), y_ = (x6_1 ++ [y344]) := ⟨_, rfl⟩
       replace H : (spec_DrawPlayRuns.l0 kj6 t332 y347 (wrap64 (x7_1 - 1)) l0 t342 t343) = some (r1, r2) := by first | (rw [hy347]; with_reducible exact H) | (have H2_ := (Option.bind_some _ _).symm.trans H; rw [hy347]; with_reducible exact H2_) | (have H2_ := (Option.bind_some _ _).symm.trans H; with_reducible exact H2_) | with_reducible exact H | (rw [hy347]; exact H) | exact H
       have Ny347 := Aside0.mk hy347
       clear hy347
       have H' := Aside0.mk H
       clear H
       go_wp2_with (first | ((with_reducible refine gate_callee (f := 44) rfl ?_); refine gl (some 28) Tryd.func44 #[.pointer (some ⟨gb331, 0, none⟩), .int .i64 (t332.size : Int)] ?_; (with_reducible refine (spec_l1Cur_pick.calls gb331 l0 x332001_1 x332002_1 (t332.size : Int) t338 t339 t340 w _ ?side1 ?side2 A10.out).mono ?_); (case side1 => exact hi63); (case side2 => exact hb63); rintro e w13 ⟨rfl, hi, hb, hk⟩; refine ⟨_, rfl, ?_⟩; replace HO_6 := Aside0.mk (Kd.N_mono (Kd.N_keep (Kd.N_mono (ok := fun k_ => (((w.heap.size ≤ k_)) ∧ k_ ≠ gb331)) (by (with_reducible repeat (first | apply Kd.N_alloc | apply Kd.N_drewN | apply Kd.N_drew)); exact HO_6.out) (fun k_ hk_ => (⟨hk_, hk_.2⟩ : _ ∧ k_ ≠ gb331))) hk (fun _ h => h.2)) (fun _ h => h.1)); replace HB := Aside0.mk (hb); replace HI331 := Aside0.mk (hi); (try clear hb)) | ((with_reducible refine gate_callee (f := 44) rfl ?_); refine gl (some 37) Tryd.func44 #[.pointer (some ⟨gb331, 0, none⟩), .int .i64 (wrap64 ((t332.size : Int) - t338))] ?_; (with_reducible refine (spec_l1Cur_pick.calls gb331 l0 t339 t340 (wrap64 ((t332.size : Int) - t338)) t341 t342 t343 w _ ?side1 ?side2 A11.out).mono ?_); (case side1 => exact hi63); (case side2 => exact hb63); rintro e w14 ⟨rfl, hi, hb, hk⟩; refine ⟨_, rfl, ?_⟩; replace HO_6 := Aside0.mk (Kd.N_mono (Kd.N_keep (Kd.N_mono (ok := fun k_ => (((w.heap.size ≤ k_)) ∧ k_ ≠ gb331)) (by (with_reducible repeat (first | apply Kd.N_alloc | apply Kd.N_drewN | apply Kd.N_drew)); exact HO_6.out) (fun k_ hk_ => (⟨hk_, hk_.2⟩ : _ ∧ k_ ≠ gb331))) hk (fun _ h => h.2)) (fun _ h => h.1)); replace HB := Aside0.mk (hb); replace HI331 := Aside0.mk (hi); (try clear hb)) | ((with_reducible refine gate_dst (N := 39) rfl ?_); (try (refine gate_guard (by rfl) ?_; dsimp only)); refine Kd.R_lit (Kd.int .i64) _ 3 ?hg (N := 39) ?hd (xs := ([t338, wrap64 (t338 + t341)] : List Int)) (inner := [.int .i64 t338, .int .i64 (wrap64 (t338 + t341))]) (ok := fun _ => True) (okp := fun _ => True) ?hr ?hp (fun _ hk => hk) trivial (Below.refl _ _) (Nat.le_refl _) (by simp) ?_; (case hd => rfl); (case hg => rfl); (case hr => first | (go_simp; done) | (go_simp; rfl)); (case hp => exact (Reps.one (show Kd.M (Kd.int .i64) _ _ _ t338 [.int .i64 t338] from rfl) (Reps.one (show Kd.M (Kd.int .i64) _ _ _ (wrap64 (t338 + t341)) [.int .i64 (wrap64 (t338 + t341))] from rfl) (Reps.none _ _)))); intro v345 w15 ho16 hb hg_ hnew_; clear hg_ hnew_; (first | rw [← Ny344.out] at ho16 | (simp only [Int.reduceToNat] at ho16; rw [← Ny344.out] at ho16)); replace HO_6 := Aside0.mk (Kd.N_elder' (by (with_reducible repeat (first | apply Kd.N_alloc | apply Kd.N_drewN | apply Kd.N_drew)); exact HO_6.out) (Kd.R_base ho16) hb); have HO346 := Aside0.mk (Kd.R_lower (Kd.R_newM (M := fun k_ => (w.heap.size ≤ k_)) ho16 (below_size hb63) (fun k_ h_ => h_)) (below_size hb63)); replace HB := bt63 HB hb; replace HI331 := ib63 HI331 hb; clear hb ho16; obtain ⟨Ao18, co18, eo18⟩ := Kd.R_slice HO346.out; subst eo18) | ((with_reducible refine gate_builtin (b := .append) (xs := #[.tmp 29, .tmp 40]) rfl ?_); (try (refine gate_guard (by rfl) ?_; dsimp only)); at_builtin; refine Kd.N_append (Kd.slice 3 (Kd.int .i64)) (w0 := w) w.heap.size rfl (.tmp 29) (.tmp 40) 26 31 (.slice none 0 0) 24 rfl Tryd.underlying26 info31 rfl (by decide) (by omega) u6 x6_1 y344 [.slice Ao18 y344.length co18] (fun k_ => (w.heap.size ≤ k_) ∧ k_ ≠ gb331) (fun k_ => ((fun k_ => (w.heap.size ≤ k_) ∧ k_ ≠ gb331)) k_ ∧ some k_ ≠ (u6 : Value).ownBlock) rfl rfl ?aP (fun _ hk => hk) ?aF ?aO ?aB ?aS ?aL ?_; (case aP => exact (Kd.FK_slice_mk (Kd.R_reads' (Kd.R_mono (ok' := (fun k_ => ((fun k_ => (w.heap.size ≤ k_) ∧ k_ ≠ gb331)) k_ ∧ some k_ ≠ (u6 : Value).ownBlock)) (IsS63.apart HI331.out (Kd.R_apart' (HO346.out) (Kd.N_typed HO_6.out) (by decide)) (by decide)) (fun k_ hk => ⟨⟨hk.1.1.1, hk.2⟩, hk.1.2⟩))).2.1 (Kd.R_F (Kd.R_mono (ok' := (fun k_ => ((fun k_ => (w.heap.size ≤ k_) ∧ k_ ≠ gb331)) k_ ∧ some k_ ≠ (u6 : Value).ownBlock)) (IsS63.apart HI331.out (Kd.R_apart' (HO346.out) (Kd.N_typed HO_6.out) (by decide)) (by decide)) (fun k_ hk => ⟨⟨hk.1.1.1, hk.2⟩, hk.1.2⟩))))); (case aB => exact hb63); (case aF => exact (fun k_ hk => ⟨(Nat.le_trans (below_size hb63) hk), IsS63.fresh hi63 k_ hk⟩)); (case aO => exact (by (with_reducible repeat (first | apply Kd.N_alloc | apply Kd.N_drewN | apply Kd.N_drew)); exact Kd.N_mono HO_6.out (fun _ hk => ⟨hk.1.1, hk.1.2⟩))); (case aS => exact (below_size hb63)); (case aL => have := LMc12.out; omega); intro v348 w17 ho hb hg hat; rw [← Ny347.out] at ho; have n0_ := Aside0.mk (IsS63.grown hi63 hg (IsS63.own_neN HI331.out HO_6.out (by decide))); have n1_ := Aside0.mk (hb); have n2_ := Aside0.mk (ho); clear HI331; clear HB; clear HO_6; clear HO346; have HI331 := n0_; have HB := n1_; have HO349 := n2_; clear n0_ n1_ n2_; clear ho hb hg hat))
       go_roundg kj6
       case measure => have := HK1.out; have := HJ6.out; omega
       case rel => exact ⟨(y347), (wrap64 (x7_1 - 1)), (t342), (t343), (rs), H', ⟨by have := HK1.out; have := HJ6.out; omega⟩, ⟨by (with_reducible repeat (first | apply Kd.N_alloc | apply Kd.N_drewN | apply Kd.N_drew)); exact HO349.out⟩, ⟨hi63⟩, ⟨hb63⟩⟩
      ·rw [if_neg c12] at H
       exact absurd H (by simp)
     ·replace c9 := Bool.eq_false_iff.mpr c9
      subst c9
      rw [if_neg (show ¬ (false = true) by decide)] at H
      replace H := Option.bind_eq_some_iff.mp H
      obtain ⟨⟨t350, t351, t352⟩, A190, H⟩ := H
      (try dsimp only at H)
      have A19 := Aside0.mk A190
      clear A190
      by_cases c20 : t350 = true
      ·subst c20
       rw [if_pos rfl] at H
       obtain ⟨y353, hy353⟩ : ∃ y_ : List Int, y_ = (([1] : List Int)) := ⟨_, rfl⟩
       replace H : ((some (([[], y353, (([1, 0] : List Int)), (([(-1), 0] : List Int)), (([0, 99] : List Int)), (([0, 0, 0] : List Int))] : List (List Int)) : List (List Int))).bind fun y368 => ((spec_l1Cur_pick.f l0 t351 t352 6).bind fun bt371 => (if 0 ≤ bt371.1 then (if bt371.1 < (y368.length : Int) then (if x6_1.length < 5864062014805 then (some (t332, (x6_1 ++ [rd_L3 y368 bt371.1]))) else (none)) else (none)) else (none)))) = some (r1, r2) := by first | (rw [hy353]; with_reducible exact H) | (have H2_ := (Option.bind_some _ _).symm.trans H; rw [hy353]; with_reducible exact H2_) | (have H2_ := (Option.bind_some _ _).symm.trans H; with_reducible exact H2_) | with_reducible exact H | (rw [hy353]; exact H) | exact H
       have Ny353 := Aside0.mk hy353
       clear hy353
       obtain ⟨y356, hy356⟩ : ∃ y_ : List Int, y_ = (([1, 0] : List Int)) := ⟨_, rfl⟩
       replace H : ((some (([[], y353, y356, (([(-1), 0] : List Int)), (([0, 99] : List Int)), (([0, 0, 0] : List Int))] : List (List Int)) : List (List Int))).bind fun y368 => ((spec_l1Cur_pick.f l0 t351 t352 6).bind fun bt371 => (if 0 ≤ bt371.1 then (if bt371.1 < (y368.length : Int) then (if x6_1.length < 5864062014805 then (some (t332, (x6_1 ++ [rd_L3 y368 bt371.1]))) else (none)) else (none)) else (none)))) = some (r1, r2) := by first | (rw [hy356]; with_reducible exact H) | (have H2_ := (Option.bind_some _ _).symm.trans H; rw [hy356]; with_reducible exact H2_) | (have H2_ := (Option.bind_some _ _).symm.trans H; with_reducible exact H2_) | with_reducible exact H | (rw [hy356]; exact H) | exact H
       have Ny356 := Aside0.mk hy356
       clear hy356
       obtain ⟨y359, hy359⟩ : ∃ y_ : List Int, y_ = (([(-1), 0] : List Int)) := ⟨_, rfl⟩
       replace H : ((some (([[], y353, y356, y359, (([0, 99] : List Int)), (([0, 0, 0] : List Int))] : List (List Int)) : List (List Int))).bind fun y368 => ((spec_l1Cur_pick.f l0 t351 t352 6).bind fun bt371 => (if 0 ≤ bt371.1 then (if bt371.1 < (y368.length : Int) then (if x6_1.length < 5864062014805 then (some (t332, (x6_1 ++ [rd_L3 y368 bt371.1]))) else (none)) else (none)) else (none)))) = some (r1, r2) := by first | (rw [hy359]; with_reducible exact H) | (have H2_ := (Option.bind_some _ _).symm.trans H; rw [hy359]; with_reducible exact H2_) | (have H2_ := (Option.bind_some _ _).symm.trans H; with_reducible exact H2_) | with_reducible exact H | (rw [hy359]; exact H) | exact H
       have Ny359 := Aside0.mk hy359
       clear hy359
       obtain ⟨y362, hy362⟩ : ∃ y_ : List Int, y_ = (([0, 99] : List Int)) := ⟨_, rfl⟩
       replace H : ((some (([[], y353, y356, y359, y362, (([0, 0, 0] : List Int))] : List (List Int)) : List (List Int))).bind fun y368 => ((spec_l1Cur_pick.f l0 t351 t352 6).bind fun bt371 => (if 0 ≤ bt371.1 then (if bt371.1 < (y368.length : Int) then (if x6_1.length < 5864062014805 then (some (t332, (x6_1 ++ [rd_L3 y368 bt371.1]))) else (none)) else (none)) else (none)))) = some (r1, r2) := by first | (rw [hy362]; with_reducible exact H) | (have H2_ := (Option.bind_some _ _).symm.trans H; rw [hy362]; with_reducible exact H2_) | (have H2_ := (Option.bind_some _ _).symm.trans H; with_reducible exact H2_) | with_reducible exact H | (rw [hy362]; exact H) | exact H
       have Ny362 := Aside0.mk hy362
       clear hy362
       obtain ⟨y365, hy365⟩ : ∃ y_ : List Int, y_ = (([0, 0, 0] : List Int)) := ⟨_, rfl⟩
       replace H : ((some (([[], y353, y356, y359, y362, y365] : List (List Int)) : List (List Int))).bind fun y368 => ((spec_l1Cur_pick.f l0 t351 t352 6).bind fun bt371 => (if 0 ≤ bt371.1 then (if bt371.1 < (y368.length : Int) then (if x6_1.length < 5864062014805 then (some (t332, (x6_1 ++ [rd_L3 y368 bt371.1]))) else (none)) else (none)) else (none)))) = some (r1, r2) := by first | (rw [hy365]; with_reducible exact H) | (have H2_ := (Option.bind_some _ _).symm.trans H; rw [hy365]; with_reducible exact H2_) | (have H2_ := (Option.bind_some _ _).symm.trans H; with_reducible exact H2_) | with_reducible exact H | (rw [hy365]; exact H) | exact H
       have Ny365 := Aside0.mk hy365
       clear hy365
       obtain ⟨y368, hy368⟩ : ∃ y_ : List (List Int), y_ = (([[], y353, y356, y359, y362, y365] : List (List Int))) := ⟨_, rfl⟩
       replace H : ((spec_l1Cur_pick.f l0 t351 t352 6).bind fun bt371 => (if 0 ≤ bt371.1 then (if bt371.1 < (y368.length : Int) then (if x6_1.length < 5864062014805 then (some (t332, (x6_1 ++ [rd_L3 y368 bt371.1]))) else (none)) else (none)) else (none))) = some (r1, r2) := by first | (rw [hy368]; with_reducible exact H) | (have H2_ := (Option.bind_some _ _).symm.trans H; rw [hy368]; with_reducible exact H2_) | (have H2_ := (Option.bind_some _ _).symm.trans H; with_reducible exact H2_) | with_reducible exact H | (rw [hy368]; exact H) | exact H
       have Ny368 := Aside0.mk hy368
       clear hy368
       replace H := Option.bind_eq_some_iff.mp H
       obtain ⟨⟨t371, t372, t373⟩, A210, H⟩ := H
       (try dsimp only at H)
       have A21 := Aside0.mk A210
       clear A210
       by_cases c22 : 0 ≤ t371
       ·rw [if_pos c22] at H
        have c22b0 : decide (0 ≤ t371) = true := decide_eq_true c22
        clear c22
        by_cases c23 : t371 < (y368.length : Int)
        ·rw [if_pos c23] at H
         have c23b0 : decide (t371 < (y368.length : Int)) = true := decide_eq_true c23
         clear c23
         by_cases c24 : x6_1.length < 5864062014805
         ·rw [if_pos c24] at H
          have LMc24 := Aside0.mk c24
          clear c24
          obtain ⟨y375, hy375⟩ : ∃ y_ : List (List Int), y_ = (x6_1 ++ [rd_L3 y368 t371]) := ⟨_, rfl⟩
          replace H : (some (t332, y375)) = some (r1, r2) := by first | (rw [hy375]; with_reducible exact H) | (have H2_ := (Option.bind_some _ _).symm.trans H; rw [hy375]; with_reducible exact H2_) | (have H2_ := (Option.bind_some _ _).symm.trans H; with_reducible exact H2_) | with_reducible exact H | (rw [hy375]; exact H) | exact H
          have Ny375 := Aside0.mk hy375
          clear hy375
          simp only [Option.some.injEq, Prod.mk.injEq] at H
          obtain ⟨rfl, rfl⟩ := H
          go_wp2_with (first | ((with_reducible refine gate_callee (f := 50) rfl ?_); refine gl (some 43) Tryd.func50 #[.pointer (some ⟨gb331, 0, none⟩), .int .i64 8] ?_; (with_reducible refine (spec_l1Cur_one.calls gb331 l0 x332001_1 x332002_1 8 true t351 t352 w _ ?side1 ?side2 A19.out).mono ?_); (case side1 => exact hi63); (case side2 => exact hb63); rintro e w25 ⟨rfl, hi, hb, hk⟩; refine ⟨_, rfl, ?_⟩; replace HO_6 := Aside0.mk (Kd.N_mono (Kd.N_keep (Kd.N_mono (ok := fun k_ => (((w.heap.size ≤ k_)) ∧ k_ ≠ gb331)) (by (with_reducible repeat (first | apply Kd.N_alloc | apply Kd.N_drewN | apply Kd.N_drew)); exact HO_6.out) (fun k_ hk_ => (⟨hk_, hk_.2⟩ : _ ∧ k_ ≠ gb331))) hk (fun _ h => h.2)) (fun _ h => h.1)); replace HB := Aside0.mk (hb); replace HI331 := Aside0.mk (hi); (try clear hb)) | ((with_reducible refine gate_dst (N := 45) rfl ?_); (try (refine gate_guard (by rfl) ?_; dsimp only)); refine Kd.R_lit (Kd.int .i64) _ 3 ?hg (N := 45) ?hd (xs := ([1] : List Int)) (inner := [.int .i64 1]) (ok := fun _ => True) (okp := fun _ => True) ?hr ?hp (fun _ hk => hk) trivial (Below.refl _ _) (Nat.le_refl _) (by simp) ?_; (case hd => rfl); (case hg => rfl); (case hr => first | (go_simp; done) | (go_simp; rfl)); (case hp => exact (Reps.one (show Kd.M (Kd.int .i64) _ _ _ 1 [.int .i64 1] from rfl) (Reps.none _ _))); intro v354 w26 ho27 hb hg_ hnew_; clear hg_ hnew_; (first | rw [← Ny353.out] at ho27 | (simp only [Int.reduceToNat] at ho27; rw [← Ny353.out] at ho27)); replace HO_6 := Aside0.mk (Kd.N_elder' (by (with_reducible repeat (first | apply Kd.N_alloc | apply Kd.N_drewN | apply Kd.N_drew)); exact HO_6.out) (Kd.R_base ho27) hb); have HO355 := Aside0.mk (Kd.R_lower (Kd.R_newM (M := fun k_ => (w.heap.size ≤ k_)) ho27 (below_size hb63) (fun k_ h_ => h_)) (below_size hb63)); replace HB := bt63 HB hb; replace HI331 := ib63 HI331 hb; clear hb ho27) | ((with_reducible refine gate_dst (N := 46) rfl ?_); (try (refine gate_guard (by rfl) ?_; dsimp only)); refine Kd.R_lit (Kd.int .i64) _ 3 ?hg (N := 46) ?hd (xs := ([1, 0] : List Int)) (inner := [.int .i64 1, .int .i64 0]) (ok := fun _ => True) (okp := fun _ => True) ?hr ?hp (fun _ hk => hk) trivial (Below.refl _ _) (Nat.le_refl _) (by simp) ?_; (case hd => rfl); (case hg => rfl); (case hr => first | (go_simp; done) | (go_simp; rfl)); (case hp => exact (Reps.one (show Kd.M (Kd.int .i64) _ _ _ 1 [.int .i64 1] from rfl) (Reps.one (show Kd.M (Kd.int .i64) _ _ _ 0 [.int .i64 0] from rfl) (Reps.none _ _)))); intro v357 w28 ho29 hb hg_ hnew_; clear hg_ hnew_; (first | rw [← Ny356.out] at ho29 | (simp only [Int.reduceToNat] at ho29; rw [← Ny356.out] at ho29)); replace HO_6 := Aside0.mk (Kd.N_elder' (by (with_reducible repeat (first | apply Kd.N_alloc | apply Kd.N_drewN | apply Kd.N_drew)); exact HO_6.out) (Kd.R_base ho29) hb); have HO358 := Aside0.mk (Kd.R_lower (Kd.R_new' (Kd.R_newM (M := fun k_ => (w.heap.size ≤ k_)) ho29 (below_size hb63) (fun k_ h_ => h_)) (Kd.R_lt (pr HO355))) (below_size hb63)); replace HO355 := re HO355 ho29 hb; replace HB := bt63 HB hb; replace HI331 := ib63 HI331 hb; clear hb ho29) | ((with_reducible refine gate_dst (N := 47) rfl ?_); (try (refine gate_guard (by rfl) ?_; dsimp only)); refine Kd.R_lit (Kd.int .i64) _ 3 ?hg (N := 47) ?hd (xs := ([(-1), 0] : List Int)) (inner := [.int .i64 (-1), .int .i64 0]) (ok := fun _ => True) (okp := fun _ => True) ?hr ?hp (fun _ hk => hk) trivial (Below.refl _ _) (Nat.le_refl _) (by simp) ?_; (case hd => rfl); (case hg => rfl); (case hr => first | (go_simp; done) | (go_simp; rfl)); (case hp => exact (Reps.one (show Kd.M (Kd.int .i64) _ _ _ (-1) [.int .i64 (-1)] from rfl) (Reps.one (show Kd.M (Kd.int .i64) _ _ _ 0 [.int .i64 0] from rfl) (Reps.none _ _)))); intro v360 w30 ho31 hb hg_ hnew_; clear hg_ hnew_; (first | rw [← Ny359.out] at ho31 | (simp only [Int.reduceToNat] at ho31; rw [← Ny359.out] at ho31)); replace HO_6 := Aside0.mk (Kd.N_elder' (by (with_reducible repeat (first | apply Kd.N_alloc | apply Kd.N_drewN | apply Kd.N_drew)); exact HO_6.out) (Kd.R_base ho31) hb); have HO361 := Aside0.mk (Kd.R_lower (Kd.R_new' (Kd.R_new' (Kd.R_newM (M := fun k_ => (w.heap.size ≤ k_)) ho31 (below_size hb63) (fun k_ h_ => h_)) (Kd.R_lt (pr HO355))) (Kd.R_lt (pr HO358))) (below_size hb63)); replace HO355 := re HO355 ho31 hb; replace HO358 := re HO358 ho31 hb; replace HB := bt63 HB hb; replace HI331 := ib63 HI331 hb; clear hb ho31) | ((with_reducible refine gate_dst (N := 48) rfl ?_); (try (refine gate_guard (by rfl) ?_; dsimp only)); refine Kd.R_lit (Kd.int .i64) _ 3 ?hg (N := 48) ?hd (xs := ([0, 99] : List Int)) (inner := [.int .i64 0, .int .i64 99]) (ok := fun _ => True) (okp := fun _ => True) ?hr ?hp (fun _ hk => hk) trivial (Below.refl _ _) (Nat.le_refl _) (by simp) ?_; (case hd => rfl); (case hg => rfl); (case hr => first | (go_simp; done) | (go_simp; rfl)); (case hp => exact (Reps.one (show Kd.M (Kd.int .i64) _ _ _ 0 [.int .i64 0] from rfl) (Reps.one (show Kd.M (Kd.int .i64) _ _ _ 99 [.int .i64 99] from rfl) (Reps.none _ _)))); intro v363 w32 ho33 hb hg_ hnew_; clear hg_ hnew_; (first | rw [← Ny362.out] at ho33 | (simp only [Int.reduceToNat] at ho33; rw [← Ny362.out] at ho33)); replace HO_6 := Aside0.mk (Kd.N_elder' (by (with_reducible repeat (first | apply Kd.N_alloc | apply Kd.N_drewN | apply Kd.N_drew)); exact HO_6.out) (Kd.R_base ho33) hb); have HO364 := Aside0.mk (Kd.R_lower (Kd.R_new' (Kd.R_new' (Kd.R_new' (Kd.R_newM (M := fun k_ => (w.heap.size ≤ k_)) ho33 (below_size hb63) (fun k_ h_ => h_)) (Kd.R_lt (pr HO355))) (Kd.R_lt (pr HO358))) (Kd.R_lt (pr HO361))) (below_size hb63)); replace HO355 := re HO355 ho33 hb; replace HO358 := re HO358 ho33 hb; replace HO361 := re HO361 ho33 hb; replace HB := bt63 HB hb; replace HI331 := ib63 HI331 hb; clear hb ho33) | ((with_reducible refine gate_dst (N := 49) rfl ?_); (try (refine gate_guard (by rfl) ?_; dsimp only)); refine Kd.R_lit (Kd.int .i64) _ 3 ?hg (N := 49) ?hd (xs := ([0, 0, 0] : List Int)) (inner := [.int .i64 0, .int .i64 0, .int .i64 0]) (ok := fun _ => True) (okp := fun _ => True) ?hr ?hp (fun _ hk => hk) trivial (Below.refl _ _) (Nat.le_refl _) (by simp) ?_; (case hd => rfl); (case hg => rfl); (case hr => first | (go_simp; done) | (go_simp; rfl)); (case hp => exact (Reps.one (show Kd.M (Kd.int .i64) _ _ _ 0 [.int .i64 0] from rfl) (Reps.one (show Kd.M (Kd.int .i64) _ _ _ 0 [.int .i64 0] from rfl) (Reps.one (show Kd.M (Kd.int .i64) _ _ _ 0 [.int .i64 0] from rfl) (Reps.none _ _))))); intro v366 w34 ho35 hb hg_ hnew_; clear hg_ hnew_; (first | rw [← Ny365.out] at ho35 | (simp only [Int.reduceToNat] at ho35; rw [← Ny365.out] at ho35)); replace HO_6 := Aside0.mk (Kd.N_elder' (by (with_reducible repeat (first | apply Kd.N_alloc | apply Kd.N_drewN | apply Kd.N_drew)); exact HO_6.out) (Kd.R_base ho35) hb); have HO367 := Aside0.mk (Kd.R_lower (Kd.R_new' (Kd.R_new' (Kd.R_new' (Kd.R_new' (Kd.R_newM (M := fun k_ => (w.heap.size ≤ k_)) ho35 (below_size hb63) (fun k_ h_ => h_)) (Kd.R_lt (pr HO355))) (Kd.R_lt (pr HO358))) (Kd.R_lt (pr HO361))) (Kd.R_lt (pr HO364))) (below_size hb63)); replace HO355 := re HO355 ho35 hb; replace HO358 := re HO358 ho35 hb; replace HO361 := re HO361 ho35 hb; replace HO364 := re HO364 ho35 hb; replace HB := bt63 HB hb; replace HI331 := ib63 HI331 hb; clear hb ho35; obtain ⟨Ao36, co36, eo36⟩ := Kd.R_slice HO355.out; subst eo36; obtain ⟨Ao37, co37, eo37⟩ := Kd.R_slice HO358.out; subst eo37; obtain ⟨Ao38, co38, eo38⟩ := Kd.R_slice HO361.out; subst eo38; obtain ⟨Ao39, co39, eo39⟩ := Kd.R_slice HO364.out; subst eo39; obtain ⟨Ao40, co40, eo40⟩ := Kd.R_slice HO367.out; subst eo40) | ((with_reducible refine gate_dst (N := 50) rfl ?_); (try (refine gate_guard (by rfl) ?_; dsimp only)); refine Kd.N_lit (Kd.slice 3 (Kd.int .i64)) _ 31 ?hg (N' := 50) ?hd (xs := ([[], y353, y356, y359, y362, y365] : List (List Int))) (inner := [.slice none 0 0, .slice Ao36 y353.length co36, .slice Ao37 y356.length co37, .slice Ao38 y359.length co38, .slice Ao39 y362.length co39, .slice Ao40 y365.length co40]) (ok := (fun k_ => (w.heap.size ≤ k_) ∧ some k_ ≠ (u6 : Value).ownBlock ∧ k_ ≠ gb331)) (okp := (fun k_ => (w.heap.size ≤ k_) ∧ some k_ ≠ (u6 : Value).ownBlock ∧ k_ ≠ gb331)) ?hr ?hp (fun _ hk => hk) ((show ∀ k_, w34.heap.size ≤ k_ → (fun k_ => (w.heap.size ≤ k_) ∧ some k_ ≠ (u6 : Value).ownBlock ∧ k_ ≠ gb331) k_ from fun k_ hk => ⟨(Nat.le_trans (below_size hb63) hk), Kd.fresh' (Kd.N_lt (by (with_reducible repeat (first | apply Kd.N_alloc | apply Kd.N_drewN | apply Kd.N_drew)); exact HO_6.out)) k_ hk, IsS63.fresh hi63 k_ hk⟩) _ (Nat.le_refl _)) (Below.refl _ _) (Nat.le_refl _) (by simp) ?_; (case hd => rfl); (case hg => rfl); (case hr => first | (go_simp; done) | (go_simp; rfl)); (case hp => exact (Reps.one (show Kd.FK (Kd.slice 3 (Kd.int .i64)) _ _ [] [.slice none 0 0] from (Kd.FK_slice_mk (Nat.le_refl _) (Kd.F_nil _ _ _))) (Reps.one (show Kd.FK (Kd.slice 3 (Kd.int .i64)) _ _ y353 [.slice Ao36 y353.length co36] from (Kd.FK_slice_mk (Kd.R_reads' (Kd.R_mono (ok' := (fun k_ => (w.heap.size ≤ k_) ∧ some k_ ≠ (u6 : Value).ownBlock ∧ k_ ≠ gb331)) (IsS63.apart HI331.out (Kd.R_apart' (HO355.out) (Kd.N_typed HO_6.out) (by decide)) (by decide)) (fun k_ hk => ⟨hk.1.1.1.1.1.1.1, ⟨hk.1.2, hk.2⟩⟩))).2.1 (Kd.R_F (Kd.R_mono (ok' := (fun k_ => (w.heap.size ≤ k_) ∧ some k_ ≠ (u6 : Value).ownBlock ∧ k_ ≠ gb331)) (IsS63.apart HI331.out (Kd.R_apart' (HO355.out) (Kd.N_typed HO_6.out) (by decide)) (by decide)) (fun k_ hk => ⟨hk.1.1.1.1.1.1.1, ⟨hk.1.2, hk.2⟩⟩))))) (Reps.one (show Kd.FK (Kd.slice 3 (Kd.int .i64)) _ _ y356 [.slice Ao37 y356.length co37] from (Kd.FK_slice_mk (Kd.R_reads' (Kd.R_mono (ok' := (fun k_ => (w.heap.size ≤ k_) ∧ some k_ ≠ (u6 : Value).ownBlock ∧ k_ ≠ gb331)) (IsS63.apart HI331.out (Kd.R_apart' (HO358.out) (Kd.N_typed HO_6.out) (by decide)) (by decide)) (fun k_ hk => ⟨hk.1.1.1.1.1.1.1, ⟨hk.1.2, hk.2⟩⟩))).2.1 (Kd.R_F (Kd.R_mono (ok' := (fun k_ => (w.heap.size ≤ k_) ∧ some k_ ≠ (u6 : Value).ownBlock ∧ k_ ≠ gb331)) (IsS63.apart HI331.out (Kd.R_apart' (HO358.out) (Kd.N_typed HO_6.out) (by decide)) (by decide)) (fun k_ hk => ⟨hk.1.1.1.1.1.1.1, ⟨hk.1.2, hk.2⟩⟩))))) (Reps.one (show Kd.FK (Kd.slice 3 (Kd.int .i64)) _ _ y359 [.slice Ao38 y359.length co38] from (Kd.FK_slice_mk (Kd.R_reads' (Kd.R_mono (ok' := (fun k_ => (w.heap.size ≤ k_) ∧ some k_ ≠ (u6 : Value).ownBlock ∧ k_ ≠ gb331)) (IsS63.apart HI331.out (Kd.R_apart' (HO361.out) (Kd.N_typed HO_6.out) (by decide)) (by decide)) (fun k_ hk => ⟨hk.1.1.1.1.1.1.1, ⟨hk.1.2, hk.2⟩⟩))).2.1 (Kd.R_F (Kd.R_mono (ok' := (fun k_ => (w.heap.size ≤ k_) ∧ some k_ ≠ (u6 : Value).ownBlock ∧ k_ ≠ gb331)) (IsS63.apart HI331.out (Kd.R_apart' (HO361.out) (Kd.N_typed HO_6.out) (by decide)) (by decide)) (fun k_ hk => ⟨hk.1.1.1.1.1.1.1, ⟨hk.1.2, hk.2⟩⟩))))) (Reps.one (show Kd.FK (Kd.slice 3 (Kd.int .i64)) _ _ y362 [.slice Ao39 y362.length co39] from (Kd.FK_slice_mk (Kd.R_reads' (Kd.R_mono (ok' := (fun k_ => (w.heap.size ≤ k_) ∧ some k_ ≠ (u6 : Value).ownBlock ∧ k_ ≠ gb331)) (IsS63.apart HI331.out (Kd.R_apart' (HO364.out) (Kd.N_typed HO_6.out) (by decide)) (by decide)) (fun k_ hk => ⟨hk.1.1.1.1.1.1.1, ⟨hk.1.2, hk.2⟩⟩))).2.1 (Kd.R_F (Kd.R_mono (ok' := (fun k_ => (w.heap.size ≤ k_) ∧ some k_ ≠ (u6 : Value).ownBlock ∧ k_ ≠ gb331)) (IsS63.apart HI331.out (Kd.R_apart' (HO364.out) (Kd.N_typed HO_6.out) (by decide)) (by decide)) (fun k_ hk => ⟨hk.1.1.1.1.1.1.1, ⟨hk.1.2, hk.2⟩⟩))))) (Reps.one (show Kd.FK (Kd.slice 3 (Kd.int .i64)) _ _ y365 [.slice Ao40 y365.length co40] from (Kd.FK_slice_mk (Kd.R_reads' (Kd.R_mono (ok' := (fun k_ => (w.heap.size ≤ k_) ∧ some k_ ≠ (u6 : Value).ownBlock ∧ k_ ≠ gb331)) (IsS63.apart HI331.out (Kd.R_apart' (HO367.out) (Kd.N_typed HO_6.out) (by decide)) (by decide)) (fun k_ hk => ⟨hk.1.1.1.1.1.1.1, ⟨hk.1.2, hk.2⟩⟩))).2.1 (Kd.R_F (Kd.R_mono (ok' := (fun k_ => (w.heap.size ≤ k_) ∧ some k_ ≠ (u6 : Value).ownBlock ∧ k_ ≠ gb331)) (IsS63.apart HI331.out (Kd.R_apart' (HO367.out) (Kd.N_typed HO_6.out) (by decide)) (by decide)) (fun k_ hk => ⟨hk.1.1.1.1.1.1.1, ⟨hk.1.2, hk.2⟩⟩))))) (Reps.none _ _)))))))); intro v369 w41 ho42 hb hg_ hnew_; clear hg_ hnew_; (first | rw [← Ny368.out] at ho42 | (simp only [Int.reduceToNat] at ho42; rw [← Ny368.out] at ho42)); have n0_ := Aside0.mk (Kd.N_elder' (by (with_reducible repeat (first | apply Kd.N_alloc | apply Kd.N_drewN | apply Kd.N_drew)); exact HO_6.out) (Kd.N_base ho42) hb); have n1_ := Aside0.mk (Kd.N_lower ho42 (below_size hb63)); have n2_ := ib63 HI331 hb; have n3_ := bt63 HB hb; clear HO_6; clear HI331; clear HB; clear HO355; clear HO358; clear HO361; clear HO364; clear HO367; have HO_6 := n0_; have HO370 := n1_; have HI331 := n2_; have HB := n3_; clear n0_ n1_ n2_ n3_; clear hb ho42) | ((with_reducible refine gate_callee (f := 44) rfl ?_); refine gl (some 52) Tryd.func44 #[.pointer (some ⟨gb331, 0, none⟩), .int .i64 6] ?_; (with_reducible refine (spec_l1Cur_pick.calls gb331 l0 t351 t352 6 t371 t372 t373 w _ ?side1 ?side2 A21.out).mono ?_); (case side1 => exact hi63); (case side2 => exact hb63); rintro e w43 ⟨rfl, hi, hb, hk⟩; refine ⟨_, rfl, ?_⟩; replace HO_6 := Aside0.mk (Kd.N_mono (Kd.N_keep (Kd.N_mono (prN HO_6) (fun k_ hk_ => (⟨hk_, hk_.1.1.1.1.1.1.2⟩ : _ ∧ k_ ≠ gb331))) hk (fun _ h => h.2)) (fun _ h => h.1)); replace HO370 := Aside0.mk (Kd.N_mono (Kd.N_keep (Kd.N_mono (ok := fun k_ => (((w.heap.size ≤ k_)) ∧ (some k_ ≠ (u6 : Value).ownBlock ∧ k_ ≠ gb331))) (by (with_reducible repeat (first | apply Kd.N_alloc | apply Kd.N_drewN | apply Kd.N_drew)); exact HO370.out) (fun k_ hk_ => (⟨hk_, hk_.2.2⟩ : _ ∧ k_ ≠ gb331))) hk (fun _ h => h.2)) (fun _ h => h.1)); replace HB := Aside0.mk (hb); replace HI331 := Aside0.mk (hi); (try clear hb); obtain ⟨Ao44, co44, eo44⟩ := Kd.N_slice HO370.out; subst eo44; have p374 : 0 ≤ (t371 : Int) := of_decide_eq_true asm; have q374 : t371 < (y368.length : Int) := of_decide_eq_true asm; obtain ⟨ad374, A374_0, c374_0, e374, hx374_0, hl374_0, hi374_0⟩ := at_L3 (Kd.N_reads' HO370.out).2.2 t371 p374 q374; cases e374; obtain ⟨ce374, hce374, hMe374, hcc374⟩ := Kd.N_get HO370.out [] t371 p374 (by first | exact q374 | exact of_decide_eq_true asm | (have e_ := (Kd.N_reads' HO370.out).1; omega)); obtain ⟨ua374_0, uc374_0, rfl, ul374_0, ge374_0⟩ := Kd.FK_slice_open hMe374; have hv374_0 := hcc374 0 _ rfl; rw [Nat.add_zero, show ((Kd.slice 3 (Kd.int .i64))).sz = 1 from rfl, Nat.mul_one] at hv374_0; replace hv374_0 := Option.some.inj (hv374_0.symm.trans hx374_0); injection hv374_0 with hva_ hvn_ hvc_; rw [hva_] at ge374_0; rw [hvc_] at ul374_0; have HL374_0 := Aside0.mk (show Kd.V (Kd.int .i64) 3 _ w.heap.size _ _ (rd_L3 y368 t371) from Kd.V_mk ul374_0 ge374_0); clear hva_ hvn_ hvc_ ge374_0 ul374_0; clear hcc374 hce374; have HR374_0 := Aside0.mk hi374_0; have HC374_0 := Aside0.mk hl374_0; clear hi374_0 hl374_0; replace p374 := eq_true p374; replace q374 := eq_true q374) | ((with_reducible refine gate_builtin (b := .append) (xs := #[.tmp 44, .tmp 55]) rfl ?_); (try (refine gate_guard (by rfl) ?_; dsimp only)); at_builtin; refine Kd.N_append (Kd.slice 3 (Kd.int .i64)) (w0 := w) w.heap.size rfl (.tmp 44) (.tmp 55) 26 31 (.slice none 0 0) 24 rfl Tryd.underlying26 info31 rfl (by decide) (by omega) u6 x6_1 (rd_L3 y368 t371) [.slice A374_0 (rd_L3 y368 t371).length c374_0] (fun k_ => (w.heap.size ≤ k_) ∧ some k_ ≠ (.slice (some ad374) y368.length co44 : Value).ownBlock ∧ k_ ≠ gb331) (fun k_ => ((fun k_ => (w.heap.size ≤ k_) ∧ some k_ ≠ (.slice (some ad374) y368.length co44 : Value).ownBlock ∧ k_ ≠ gb331)) k_ ∧ some k_ ≠ (u6 : Value).ownBlock) rfl rfl ?aP (fun _ hk => hk) ?aF ?aO ?aB ?aS ?aL ?_; (case aP => exact (Kd.FK_slice_mk (Kd.V_reads' (Kd.V_mono (ok' := (fun k_ => ((fun k_ => (w.heap.size ≤ k_) ∧ some k_ ≠ (.slice (some ad374) y368.length co44 : Value).ownBlock ∧ k_ ≠ gb331)) k_ ∧ some k_ ≠ (u6 : Value).ownBlock)) (HL374_0.out) (fun k_ hk => ⟨⟨hk.1.1, ⟨hk.2, hk.1.2.2⟩⟩, hk.1.2.1⟩))).2.1 (Kd.V_F (Kd.V_mono (ok' := (fun k_ => ((fun k_ => (w.heap.size ≤ k_) ∧ some k_ ≠ (.slice (some ad374) y368.length co44 : Value).ownBlock ∧ k_ ≠ gb331)) k_ ∧ some k_ ≠ (u6 : Value).ownBlock)) (HL374_0.out) (fun k_ hk => ⟨⟨hk.1.1, ⟨hk.2, hk.1.2.2⟩⟩, hk.1.2.1⟩))))); (case aB => exact hb63); (case aF => exact (fun k_ hk => ⟨(Nat.le_trans (below_size hb63) hk), Kd.fresh' (Kd.N_lt (by (with_reducible repeat (first | apply Kd.N_alloc | apply Kd.N_drewN | apply Kd.N_drew)); exact HO370.out)) k_ hk, IsS63.fresh hi63 k_ hk⟩)); (case aO => exact (by (with_reducible repeat (first | apply Kd.N_alloc | apply Kd.N_drewN | apply Kd.N_drew)); exact Kd.N_mono HO_6.out (fun _ hk => ⟨hk.1.1.1.1.1.1.1, ⟨hk.2, hk.1.1.1.1.1.1.2⟩⟩))); (case aS => exact (below_size hb63)); (case aL => have := LMc24.out; omega); intro v376 w45 ho hb hg hat; rw [← Ny375.out] at ho; have n0_ := Aside0.mk (IsS63.grown hi63 hg (IsS63.own_neN HI331.out HO_6.out (by decide))); have n1_ := Aside0.mk (Kd.N_afterv (ok := (fun k_ => (w.heap.size ≤ k_) ∧ k_ ≠ gb331)) (by (with_reducible repeat (first | apply Kd.N_alloc | apply Kd.N_drewN | apply Kd.N_drew)); exact Kd.N_mono HO370.out (fun _ hk => ⟨⟨hk.1, hk.2.2⟩, hk.2.1⟩)) hg hat); have n2_ := Aside0.mk (Kd.V_afterv (ok := (fun k_ => (w.heap.size ≤ k_) ∧ some k_ ≠ (.slice (some ad374) y368.length co44 : Value).ownBlock ∧ k_ ≠ gb331)) (by (with_reducible repeat (first | apply Kd.V_alloc | apply Kd.V_drewN | apply Kd.V_drew)); exact Kd.V_mono HL374_0.out (fun _ hk => ⟨⟨hk.1.1, ⟨hk.2, hk.1.2.2⟩⟩, hk.1.2.1⟩)) hg hat); have n3_ := Aside0.mk (hb); have n4_ := Aside0.mk (ho); clear HI331; clear HO370; clear HL374_0; clear HB; clear HO_6; have HI331 := n0_; have HO370 := n1_; have HL374_0 := n2_; have HB := n3_; have HO377 := n4_; clear n0_ n1_ n2_ n3_ n4_; clear ho hb hg hat))
          go_ret2
          exact ⟨_, rs, by (with_reducible repeat (first | apply Kd.N_alloc | apply Kd.N_drewN | apply Kd.N_drew)); exact Kd.N_mono HO377.out (fun _ hk => hk.1), hb63⟩
         ·rw [if_neg c24] at H
          exact absurd H (by simp)
        ·rw [if_neg c23] at H
         exact absurd H (by simp)
       ·rw [if_neg c22] at H
        exact absurd H (by simp)
      ·replace c20 := Bool.eq_false_iff.mpr c20
       subst c20
       rw [if_neg (show ¬ (false = true) by decide)] at H
       simp only [Option.some.injEq, Prod.mk.injEq] at H
       obtain ⟨rfl, rfl⟩ := H
       go_wp2_with (first | ((with_reducible refine gate_callee (f := 50) rfl ?_); refine gl (some 43) Tryd.func50 #[.pointer (some ⟨gb331, 0, none⟩), .int .i64 8] ?_; (with_reducible refine (spec_l1Cur_one.calls gb331 l0 x332001_1 x332002_1 8 false t351 t352 w _ ?side1 ?side2 A19.out).mono ?_); (case side1 => exact hi63); (case side2 => exact hb63); rintro e w46 ⟨rfl, hi, hb, hk⟩; refine ⟨_, rfl, ?_⟩; replace HO_6 := Aside0.mk (Kd.N_mono (Kd.N_keep (Kd.N_mono (ok := fun k_ => (((w.heap.size ≤ k_)) ∧ k_ ≠ gb331)) (by (with_reducible repeat (first | apply Kd.N_alloc | apply Kd.N_drewN | apply Kd.N_drew)); exact HO_6.out) (fun k_ hk_ => (⟨hk_, hk_.2⟩ : _ ∧ k_ ≠ gb331))) hk (fun _ h => h.2)) (fun _ h => h.1)); replace HB := Aside0.mk (hb); replace HI331 := Aside0.mk (hi); (try clear hb)))
       go_ret2
       exact ⟨_, rs, by (with_reducible repeat (first | apply Kd.N_alloc | apply Kd.N_drewN | apply Kd.N_drew)); exact Kd.N_mono HO_6.out (fun _ hk => hk.1), hb63⟩

/-! ### spec_PlayRuns: function 28 -/
mutual
def spec_PlayRuns.j0 : Nat → ByteArray → List (List Int) → Bool → Option (ByteArray × Bool)
  | 0, _, _, _ => none
  | k + 1, x0, x1, x15 => if x15 = true then (some ((⟨#[]⟩ : ByteArray), false)) else (spec_PlayRuns.l0 k x0 x1 (x1.length : Int) 0)
def spec_PlayRuns.l0 : Nat → ByteArray → List (List Int) → Int → Int → Option (ByteArray × Bool)
  | 0, _, _, _, _ => none
  | k + 1, x0, x16, x17, x18 => if x18 < x17 then (if 0 ≤ x18 then (if x18 < (x16.length : Int) then (if ((rd_L3 x16 x18).length : Int) = 2 then (if 0 < ((rd_L3 x16 x18).length : Int) then ((spec_l1In.f (rd (rd_L3 x16 x18) 0) 0 (wrap64 ((x0.size : Int) - 1))).bind fun t381 => (if t381 = true then (if 1 < ((rd_L3 x16 x18).length : Int) then ((spec_l1In.f (rd (rd_L3 x16 x18) 1) (rd (rd_L3 x16 x18) 0) (wrap64 ((x0.size : Int) - 1))).bind fun t384 => (if t384 = true then ((spec_odTurn.f k x0 (rd (rd_L3 x16 x18) 0) (rd (rd_L3 x16 x18) 1)).bind fun t387 => (spec_PlayRuns.l0 k t387 x16 x17 (wrap64 (x18 + 1)))) else (some ((⟨#[]⟩ : ByteArray), false)))) else (none)) else (some ((⟨#[]⟩ : ByteArray), false)))) else (none)) else (some ((⟨#[]⟩ : ByteArray), false))) else (none)) else (none)) else (some (x0, true))
end
def spec_PlayRuns.f (k : Nat) (a0 : ByteArray) (l1 : List (List Int)) : Option (ByteArray × Bool) := (spec_odGood.f k a0).bind fun t378 => (if t378 = true then (spec_PlayRuns.j0 k a0 l1 (decide ((l1.length : Int) > 100))) else (spec_PlayRuns.j0 k a0 l1 true))
theorem spec_PlayRuns.mono_l : ∀ k, (∀ y0 y1 y2, LeO (spec_PlayRuns.j0 k y0 y1 y2) (spec_PlayRuns.j0 (k + 1) y0 y1 y2)) ∧ (∀ y0 y1 y2 y3, LeO (spec_PlayRuns.l0 k y0 y1 y2 y3) (spec_PlayRuns.l0 (k + 1) y0 y1 y2 y3))
  | 0 => ⟨fun _ _ _ r h => by simp [spec_PlayRuns.j0] at h, fun _ _ _ _ r h => by simp [spec_PlayRuns.l0] at h⟩
  | k + 1 => by
    obtain ⟨ih0, ih1⟩ := spec_PlayRuns.mono_l k
    refine ⟨?q0, ?q1⟩
    case' q0 => (intros; unfold spec_PlayRuns.j0)
    case' q1 => (intros; unfold spec_PlayRuns.l0)
    all_goals repeat' first
     | (with_reducible exact ih0 _ _ _)
     | (with_reducible exact ih1 _ _ _ _)
     | (with_reducible exact spec_odGood.mono _ _)
     | (with_reducible exact spec_odTurn.mono _ _ _ _)
     | (with_reducible exact LeO.refl _)
     | (with_reducible exact LeO.none _)
     | (with_reducible refine LeO.ite ?_ ?_)
     | (with_reducible refine LeO.bind ?_ (fun _ => ?_))
     | exact ih0 _ _ _
     | exact ih1 _ _ _ _
     | exact spec_odGood.mono _ _
     | exact spec_odTurn.mono _ _ _ _
     | exact LeO.none _
     | refine LeO.ite ?_ ?_
     | refine LeO.bind ?_ (fun _ => ?_)
theorem spec_PlayRuns.mono : ∀ a0 a1 k, LeO (spec_PlayRuns.f k a0 a1) (spec_PlayRuns.f (k + 1) a0 a1) := by
  intro a0 a1 k
  obtain ⟨ih0, ih1⟩ := spec_PlayRuns.mono_l k
  unfold spec_PlayRuns.f
  repeat' first
      | (with_reducible exact ih0 _ _ _)
      | (with_reducible exact ih1 _ _ _ _)
      | (with_reducible exact spec_odGood.mono _ _)
      | (with_reducible exact spec_odTurn.mono _ _ _ _)
      | (with_reducible exact LeO.refl _)
      | (with_reducible exact LeO.none _)
      | (with_reducible refine LeO.ite ?_ ?_)
      | (with_reducible refine LeO.bind ?_ (fun _ => ?_))
      | exact ih0 _ _ _
      | exact ih1 _ _ _ _
      | exact spec_odGood.mono _ _
      | exact spec_odTurn.mono _ _ _ _
      | exact LeO.none _
      | refine LeO.ite ?_ ?_
      | refine LeO.bind ?_ (fun _ => ?_)
set_option maxHeartbeats 8000000 in
set_option maxRecDepth 100000 in
theorem spec_PlayRuns.calls (k : Nat) (a0 : ByteArray) (A1 : Option Addr) (c1 : Nat) (l1 : List (List Int)) (r1 : ByteArray) (r2 : Bool) (w : World) (hr1 : Kd.C (Kd.slice 3 (Kd.int .i64)) w A1 l1.length l1) (hc1 : l1.length ≤ c1) (h : spec_PlayRuns.f k a0 l1 = some (r1, r2)) :
  Calls Tryd.prog 28 #[.string a0, .slice A1 l1.length c1] w fun e w' => e = .returned (.tuple #[.string r1, .bool r2]) ∧ Drawn0 w w' := by
 have HR1 := Aside0.mk hr1
 have HC1 := Aside0.mk hc1
 clear hr1 hc1
 unfold spec_PlayRuns.f at h
 have H := h
 clear h
 have HC3 := Aside0.mk H
 clear H
 go_enter Tryd.func28, Tryd.ntmps28
 go_upto_region 1 with (fail)
 repeat (go_quiet (fail); go_upto_region 1 with (fail))
 go_cut [15] (fun v15 wc => ∃ (kq : Nat) (x15_2 : Bool), v15 = .bool x15_2 ∧ Aside0 (spec_PlayRuns.j0 kq a0 l1 x15_2 = some (r1, r2)) ∧ Aside0 (kq ≤ k) ∧ Drawn0 w wc)
 case first =>
  have H := HC3.out
  clear HC3
  replace H := Option.bind_eq_some_iff.mp H
  obtain ⟨t378, A40, H⟩ := H
  (try dsimp only at H)
  have A4 := Aside0.mk A40
  clear A40
  by_cases c5 : t378 = true
  ·subst c5
   rw [if_pos rfl] at H
   have H' := Aside0.mk H
   clear H
   iterate 4 ((try go_wp2_with (first | (go_at_call 45; (with_reducible refine (spec_odGood.calls k a0 true _ A4.out).mono ?_); rintro e w' ⟨rfl, ⟨nd, rfl⟩⟩; (try exact zz)))); (try go_quiet (first | (go_at_call 45; (with_reducible refine (spec_odGood.calls k a0 true _ A4.out).mono ?_); rintro e w' ⟨rfl, ⟨nd, rfl⟩⟩; (try exact zz)))))
   go_meet
   case rel => exact ⟨_, (decide ((l1.length : Int) > 100)), (rs), H', ⟨by first | omega | exact Nat.le_refl _⟩, by repeat (first | exact Drawn0.refl _ | apply Drawn0.step)⟩
  ·replace c5 := Bool.eq_false_iff.mpr c5
   subst c5
   rw [if_neg (show ¬ (false = true) by decide)] at H
   have H' := Aside0.mk H
   clear H
   iterate 4 ((try go_wp2_with (first | (go_at_call 45; (with_reducible refine (spec_odGood.calls k a0 false _ A4.out).mono ?_); rintro e w' ⟨rfl, ⟨nd, rfl⟩⟩; (try exact zz)))); (try go_quiet (first | (go_at_call 45; (with_reducible refine (spec_odGood.calls k a0 false _ A4.out).mono ?_); rintro e w' ⟨rfl, ⟨nd, rfl⟩⟩; (try exact zz)))))
   go_meet
   case rel => exact ⟨_, (true), (rs), H', ⟨by first | omega | exact Nat.le_refl _⟩, by repeat (first | exact Drawn0.refl _ | apply Drawn0.step)⟩
 case rest =>
  clear HC3
  try clear c1
  try clear c2
  try clear p2
  try clear c5
  obtain ⟨kq, x15_2, rfl, HA, HJ2, ⟨mc2, rfl⟩⟩ := hcut
  cases kq with
  | zero => exact absurd HA.out (by simp [spec_PlayRuns.j0])
  | succ kj2 =>
   have H := HA.out
   clear HA
   simp only [spec_PlayRuns.j0] at H
   by_cases c6 : x15_2 = true
   ·subst c6
    rw [if_pos rfl] at H
    simp only [Option.some.injEq, Prod.mk.injEq] at H
    obtain ⟨rfl, rfl⟩ := H
    go_wp2
    repeat (go_quiet (fail); try go_wp2)
    go_ret2
    exact ⟨rs, by repeat (first | exact Drawn0.refl _ | apply Drawn0.step)⟩
   ·replace c6 := Bool.eq_false_iff.mpr c6
    subst c6
    rw [if_neg (show ¬ (false = true) by decide)] at H
    have H' := Aside0.mk H
    clear H
    go_wp2
    repeat (go_quiet (fail); try go_wp2)
    go_loopg [0, 18] kj2 (fun kq v0 v18 w' => ∃ (x0_2 : ByteArray) (x18_2 : Int), v0 = .string x0_2 ∧ v18 = .int .i64 x18_2 ∧ Aside0 (spec_PlayRuns.l0 kq x0_2 l1 (l1.length : Int) x18_2 = some (r1, r2)) ∧ Aside0 (kq ≤ kj2) ∧ Drawn0 w w')
    case atStart => exact ⟨(a0), (0), (rs), (rs), H', ⟨Nat.le_refl _⟩, by repeat (first | exact Drawn0.refl _ | apply Drawn0.step)⟩
    case round =>
     clear H'
     try clear c1
     try clear c2
     try clear p2
     try clear c5
     try clear c6
     try clear p2
     obtain ⟨x0_2, x18_2, rfl, rfl, HA, HK2, ⟨m2, rfl⟩⟩ := hrel
     cases gk with
     | zero => exact absurd HA.out (by simp [spec_PlayRuns.l0])
     | succ k2 =>
      have H := HA.out
      clear HA
      simp only [spec_PlayRuns.l0] at H
      by_cases c7 : x18_2 < (l1.length : Int)
      ·rw [if_pos c7] at H
       have c7b0 : decide (x18_2 < (l1.length : Int)) = true := decide_eq_true c7
       clear c7
       by_cases c8 : 0 ≤ x18_2
       ·rw [if_pos c8] at H
        have c8b0 : decide (0 ≤ x18_2) = true := decide_eq_true c8
        clear c8
        by_cases c9 : x18_2 < (l1.length : Int)
        ·rw [if_pos c9] at H
         have c9b0 : decide (x18_2 < (l1.length : Int)) = true := decide_eq_true c9
         clear c9
         by_cases c10 : ((rd_L3 l1 x18_2).length : Int) = 2
         ·rw [if_pos c10] at H
          have c10b0 : (((rd_L3 l1 x18_2).length : Int) == 2) = true := beq_iff_eq.mpr c10
          have c10b1 : (((rd_L3 l1 x18_2).length : Int) != 2) = false := bne_eq_false_iff_eq.mpr c10
          clear c10
          by_cases c11 : 0 < ((rd_L3 l1 x18_2).length : Int)
          ·rw [if_pos c11] at H
           have c11b0 : decide (0 < ((rd_L3 l1 x18_2).length : Int)) = true := decide_eq_true c11
           have c11b1 : decide (0 < (rd_L3 l1 x18_2).length) = true := decide_eq_true (by omega)
           clear c11
           replace H := Option.bind_eq_some_iff.mp H
           obtain ⟨t381, A120, H⟩ := H
           (try dsimp only at H)
           have A12 := Aside0.mk A120
           clear A120
           by_cases c13 : t381 = true
           ·subst c13
            rw [if_pos rfl] at H
            by_cases c14 : 1 < ((rd_L3 l1 x18_2).length : Int)
            ·rw [if_pos c14] at H
             have c14b0 : decide (1 < ((rd_L3 l1 x18_2).length : Int)) = true := decide_eq_true c14
             have c14b1 : decide (1 < (rd_L3 l1 x18_2).length) = true := decide_eq_true (by omega)
             clear c14
             replace H := Option.bind_eq_some_iff.mp H
             obtain ⟨t384, A150, H⟩ := H
             (try dsimp only at H)
             have A15 := Aside0.mk A150
             clear A150
             by_cases c16 : t384 = true
             ·subst c16
              rw [if_pos rfl] at H
              replace H := Option.bind_eq_some_iff.mp H
              obtain ⟨t387, A170, H⟩ := H
              (try dsimp only at H)
              have A17 := Aside0.mk A170
              clear A170
              have H' := Aside0.mk H
              clear H
              have p379 : 0 ≤ (x18_2 : Int) := of_decide_eq_true asm
              have q379 : x18_2 < (l1.length : Int) := of_decide_eq_true asm
              obtain ⟨ad379, A379_0, c379_0, e379, hx379_0, hl379_0, hi379_0⟩ := at_L3 HR1.out x18_2 p379 q379
              cases e379
              have HR379_0 := Aside0.mk hi379_0
              have HC379_0 := Aside0.mk hl379_0
              clear hi379_0 hl379_0
              replace p379 := eq_true p379
              replace q379 := eq_true q379
              have p380 : 0 ≤ (0 : Int) := (by omega)
              have q380 : 0 < ((rd_L3 l1 x18_2).length : Int) := of_decide_eq_true asm
              obtain ⟨ad380, e380, hx380_0⟩ := Kd.at_int HR379_0.out 0 p380 q380
              cases e380
              have qi380 : (0 < (rd_L3 l1 x18_2).length) = True := eq_true (by omega)
              (try rw [show ((0 : Int)).toNat = 0 from rfl] at hx380_0)
              (try rw [Addr.add_zero'] at hx380_0)
              replace p380 := eq_true p380
              replace q380 := eq_true q380
              (try (have p382 : 0 ≤ (1 : Int) := (by omega); have q382 : 1 < ((rd_L3 l1 x18_2).length : Int) := of_decide_eq_true asm; obtain ⟨ad382, e382, hx382_0⟩ := Kd.at_int HR379_0.out 1 p382 q382; obtain rfl : ad380 = ad382 := (by injection e382); (try simp only [show (1 : Int).toNat = 1 from rfl, Nat.reduceMul, Nat.reduceEqDiff, Go.Addr.add, ↓reduceIte] at hx382_0); have qi382 : (1 < (rd_L3 l1 x18_2).length) = True := eq_true (by omega); (try rw [show ((1 : Int)).toNat = 1 from rfl] at hx382_0); replace p382 := eq_true p382; replace q382 := eq_true q382; have p383 : 0 ≤ (0 : Int) := (by omega); have q383 : 0 < ((rd_L3 l1 x18_2).length : Int) := of_decide_eq_true asm; obtain ⟨ad383, e383, hx383_0⟩ := Kd.at_int HR379_0.out 0 p383 q383; obtain rfl : ad380 = ad383 := (by injection e383); have qi383 : (0 < (rd_L3 l1 x18_2).length) = True := eq_true (by omega); (try rw [show ((0 : Int)).toNat = 0 from rfl] at hx383_0); (try rw [Addr.add_zero'] at hx383_0); replace p383 := eq_true p383; replace q383 := eq_true q383))
              (try (have p385 : 0 ≤ (0 : Int) := (by omega); have q385 : 0 < ((rd_L3 l1 x18_2).length : Int) := of_decide_eq_true asm; obtain ⟨ad385, e385, hx385_0⟩ := Kd.at_int HR379_0.out 0 p385 q385; obtain rfl : ad380 = ad385 := (by injection e385); have qi385 : (0 < (rd_L3 l1 x18_2).length) = True := eq_true (by omega); (try rw [show ((0 : Int)).toNat = 0 from rfl] at hx385_0); (try rw [Addr.add_zero'] at hx385_0); replace p385 := eq_true p385; replace q385 := eq_true q385; have p386 : 0 ≤ (1 : Int) := (by omega); have q386 : 1 < ((rd_L3 l1 x18_2).length : Int) := of_decide_eq_true asm; obtain ⟨ad386, e386, hx386_0⟩ := Kd.at_int HR379_0.out 1 p386 q386; obtain rfl : ad380 = ad386 := (by injection e386); (try simp only [show (1 : Int).toNat = 1 from rfl, Nat.reduceMul, Nat.reduceEqDiff, Go.Addr.add, ↓reduceIte] at hx386_0); have qi386 : (1 < (rd_L3 l1 x18_2).length) = True := eq_true (by omega); (try rw [show ((1 : Int)).toNat = 1 from rfl] at hx386_0); replace p386 := eq_true p386; replace q386 := eq_true q386))
              iterate 4 ((try go_wp2_with (first | (go_at_call 46; (with_reducible refine (spec_l1In.calls (rd (rd_L3 l1 x18_2) 0) 0 (wrap64 ((x0_2.size : Int) - 1)) true _ A12.out).mono ?_); rintro e w' ⟨rfl, ⟨nd, rfl⟩⟩; (try exact zz)) | (go_at_call 46; (with_reducible refine (spec_l1In.calls (rd (rd_L3 l1 x18_2) 1) (rd (rd_L3 l1 x18_2) 0) (wrap64 ((x0_2.size : Int) - 1)) true _ A15.out).mono ?_); rintro e w' ⟨rfl, ⟨nd, rfl⟩⟩; (try exact zz)) | (go_at_call 47; (with_reducible refine (spec_odTurn.calls k2 x0_2 (rd (rd_L3 l1 x18_2) 0) (rd (rd_L3 l1 x18_2) 1) t387 _ A17.out).mono ?_); rintro e w' ⟨rfl, ⟨nd, rfl⟩⟩; (try exact zz)))); (try go_quiet (first | (go_at_call 46; (with_reducible refine (spec_l1In.calls (rd (rd_L3 l1 x18_2) 0) 0 (wrap64 ((x0_2.size : Int) - 1)) true _ A12.out).mono ?_); rintro e w' ⟨rfl, ⟨nd, rfl⟩⟩; (try exact zz)) | (go_at_call 46; (with_reducible refine (spec_l1In.calls (rd (rd_L3 l1 x18_2) 1) (rd (rd_L3 l1 x18_2) 0) (wrap64 ((x0_2.size : Int) - 1)) true _ A15.out).mono ?_); rintro e w' ⟨rfl, ⟨nd, rfl⟩⟩; (try exact zz)) | (go_at_call 47; (with_reducible refine (spec_odTurn.calls k2 x0_2 (rd (rd_L3 l1 x18_2) 0) (rd (rd_L3 l1 x18_2) 1) t387 _ A17.out).mono ?_); rintro e w' ⟨rfl, ⟨nd, rfl⟩⟩; (try exact zz)))))
              go_roundg k2
              case measure => have := HJ2.out; have := HK2.out; omega
              case rel => exact ⟨(t387), (wrap64 (x18_2 + 1)), (rs), (rs), H', ⟨by have := HJ2.out; have := HK2.out; omega⟩, by repeat (first | exact Drawn0.refl _ | apply Drawn0.step)⟩
             ·replace c16 := Bool.eq_false_iff.mpr c16
              subst c16
              rw [if_neg (show ¬ (false = true) by decide)] at H
              simp only [Option.some.injEq, Prod.mk.injEq] at H
              obtain ⟨rfl, rfl⟩ := H
              have p379 : 0 ≤ (x18_2 : Int) := of_decide_eq_true asm
              have q379 : x18_2 < (l1.length : Int) := of_decide_eq_true asm
              obtain ⟨ad379, A379_0, c379_0, e379, hx379_0, hl379_0, hi379_0⟩ := at_L3 HR1.out x18_2 p379 q379
              cases e379
              have HR379_0 := Aside0.mk hi379_0
              have HC379_0 := Aside0.mk hl379_0
              clear hi379_0 hl379_0
              replace p379 := eq_true p379
              replace q379 := eq_true q379
              have p380 : 0 ≤ (0 : Int) := (by omega)
              have q380 : 0 < ((rd_L3 l1 x18_2).length : Int) := of_decide_eq_true asm
              obtain ⟨ad380, e380, hx380_0⟩ := Kd.at_int HR379_0.out 0 p380 q380
              cases e380
              have qi380 : (0 < (rd_L3 l1 x18_2).length) = True := eq_true (by omega)
              (try rw [show ((0 : Int)).toNat = 0 from rfl] at hx380_0)
              (try rw [Addr.add_zero'] at hx380_0)
              replace p380 := eq_true p380
              replace q380 := eq_true q380
              (try (have p382 : 0 ≤ (1 : Int) := (by omega); have q382 : 1 < ((rd_L3 l1 x18_2).length : Int) := of_decide_eq_true asm; obtain ⟨ad382, e382, hx382_0⟩ := Kd.at_int HR379_0.out 1 p382 q382; obtain rfl : ad380 = ad382 := (by injection e382); (try simp only [show (1 : Int).toNat = 1 from rfl, Nat.reduceMul, Nat.reduceEqDiff, Go.Addr.add, ↓reduceIte] at hx382_0); have qi382 : (1 < (rd_L3 l1 x18_2).length) = True := eq_true (by omega); (try rw [show ((1 : Int)).toNat = 1 from rfl] at hx382_0); replace p382 := eq_true p382; replace q382 := eq_true q382; have p383 : 0 ≤ (0 : Int) := (by omega); have q383 : 0 < ((rd_L3 l1 x18_2).length : Int) := of_decide_eq_true asm; obtain ⟨ad383, e383, hx383_0⟩ := Kd.at_int HR379_0.out 0 p383 q383; obtain rfl : ad380 = ad383 := (by injection e383); have qi383 : (0 < (rd_L3 l1 x18_2).length) = True := eq_true (by omega); (try rw [show ((0 : Int)).toNat = 0 from rfl] at hx383_0); (try rw [Addr.add_zero'] at hx383_0); replace p383 := eq_true p383; replace q383 := eq_true q383))
              iterate 4 ((try go_wp2_with (first | (go_at_call 46; (with_reducible refine (spec_l1In.calls (rd (rd_L3 l1 x18_2) 0) 0 (wrap64 ((x0_2.size : Int) - 1)) true _ A12.out).mono ?_); rintro e w' ⟨rfl, ⟨nd, rfl⟩⟩; (try exact zz)) | (go_at_call 46; (with_reducible refine (spec_l1In.calls (rd (rd_L3 l1 x18_2) 1) (rd (rd_L3 l1 x18_2) 0) (wrap64 ((x0_2.size : Int) - 1)) false _ A15.out).mono ?_); rintro e w' ⟨rfl, ⟨nd, rfl⟩⟩; (try exact zz)))); (try go_quiet (first | (go_at_call 46; (with_reducible refine (spec_l1In.calls (rd (rd_L3 l1 x18_2) 0) 0 (wrap64 ((x0_2.size : Int) - 1)) true _ A12.out).mono ?_); rintro e w' ⟨rfl, ⟨nd, rfl⟩⟩; (try exact zz)) | (go_at_call 46; (with_reducible refine (spec_l1In.calls (rd (rd_L3 l1 x18_2) 1) (rd (rd_L3 l1 x18_2) 0) (wrap64 ((x0_2.size : Int) - 1)) false _ A15.out).mono ?_); rintro e w' ⟨rfl, ⟨nd, rfl⟩⟩; (try exact zz)))))
              go_ret2
              exact ⟨rs, by repeat (first | exact Drawn0.refl _ | apply Drawn0.step)⟩
            ·rw [if_neg c14] at H
             exact absurd H (by simp)
           ·replace c13 := Bool.eq_false_iff.mpr c13
            subst c13
            rw [if_neg (show ¬ (false = true) by decide)] at H
            simp only [Option.some.injEq, Prod.mk.injEq] at H
            obtain ⟨rfl, rfl⟩ := H
            have p379 : 0 ≤ (x18_2 : Int) := of_decide_eq_true asm
            have q379 : x18_2 < (l1.length : Int) := of_decide_eq_true asm
            obtain ⟨ad379, A379_0, c379_0, e379, hx379_0, hl379_0, hi379_0⟩ := at_L3 HR1.out x18_2 p379 q379
            cases e379
            have HR379_0 := Aside0.mk hi379_0
            have HC379_0 := Aside0.mk hl379_0
            clear hi379_0 hl379_0
            replace p379 := eq_true p379
            replace q379 := eq_true q379
            have p380 : 0 ≤ (0 : Int) := (by omega)
            have q380 : 0 < ((rd_L3 l1 x18_2).length : Int) := of_decide_eq_true asm
            obtain ⟨ad380, e380, hx380_0⟩ := Kd.at_int HR379_0.out 0 p380 q380
            cases e380
            have qi380 : (0 < (rd_L3 l1 x18_2).length) = True := eq_true (by omega)
            (try rw [show ((0 : Int)).toNat = 0 from rfl] at hx380_0)
            (try rw [Addr.add_zero'] at hx380_0)
            replace p380 := eq_true p380
            replace q380 := eq_true q380
            iterate 4 ((try go_wp2_with (first | (go_at_call 46; (with_reducible refine (spec_l1In.calls (rd (rd_L3 l1 x18_2) 0) 0 (wrap64 ((x0_2.size : Int) - 1)) false _ A12.out).mono ?_); rintro e w' ⟨rfl, ⟨nd, rfl⟩⟩; (try exact zz)))); (try go_quiet (first | (go_at_call 46; (with_reducible refine (spec_l1In.calls (rd (rd_L3 l1 x18_2) 0) 0 (wrap64 ((x0_2.size : Int) - 1)) false _ A12.out).mono ?_); rintro e w' ⟨rfl, ⟨nd, rfl⟩⟩; (try exact zz)))))
            go_ret2
            exact ⟨rs, by repeat (first | exact Drawn0.refl _ | apply Drawn0.step)⟩
          ·rw [if_neg c11] at H
           exact absurd H (by simp)
         ·rw [if_neg c10] at H
          have c10b0 : (((rd_L3 l1 x18_2).length : Int) == 2) = false := beq_eq_false_iff_ne.mpr c10
          have c10b1 : (((rd_L3 l1 x18_2).length : Int) != 2) = true := bne_iff_ne.mpr c10
          simp only [Option.some.injEq, Prod.mk.injEq] at H
          obtain ⟨rfl, rfl⟩ := H
          have p379 : 0 ≤ (x18_2 : Int) := of_decide_eq_true asm
          have q379 : x18_2 < (l1.length : Int) := of_decide_eq_true asm
          obtain ⟨ad379, A379_0, c379_0, e379, hx379_0, hl379_0, hi379_0⟩ := at_L3 HR1.out x18_2 p379 q379
          cases e379
          have HR379_0 := Aside0.mk hi379_0
          have HC379_0 := Aside0.mk hl379_0
          clear hi379_0 hl379_0
          replace p379 := eq_true p379
          replace q379 := eq_true q379
          go_wp2
          repeat (go_quiet (fail); try go_wp2)
          go_ret2
          exact ⟨rs, by repeat (first | exact Drawn0.refl _ | apply Drawn0.step)⟩
        ·rw [if_neg c9] at H
         exact absurd H (by simp)
       ·rw [if_neg c8] at H
        exact absurd H (by simp)
      ·rw [if_neg c7] at H
       have c7b0 : decide (x18_2 < (l1.length : Int)) = false := decide_eq_false c7
       clear c7
       simp only [Option.some.injEq, Prod.mk.injEq] at H
       obtain ⟨rfl, rfl⟩ := H
       go_wp2
       repeat (go_quiet (fail); try go_wp2)
       go_ret2
       exact ⟨rs, by repeat (first | exact Drawn0.refl _ | apply Drawn0.step)⟩

/-! ### spec_l1Cur_among: function 63 -/
def spec_l1Cur_among.f (s0_0 : List Int) (s0_1 : Int) (s0_2 : Int) (l1 : List Int) : Option (Int × Int × Int) := (spec_l1Cur_pick.f s0_0 s0_1 s0_2 (l1.length : Int)).bind fun bt388 => (if 0 ≤ bt388.1 then (if bt388.1 < (l1.length : Int) then (some (rd l1 bt388.1, bt388.2.1, bt388.2.2)) else (none)) else (none))
set_option maxHeartbeats 8000000 in
set_option maxRecDepth 100000 in
theorem spec_l1Cur_among.calls (g : Nat) (s0_0 : List Int) (s0_1 : Int) (s0_2 : Int) (A1 : Option Addr) (c1 : Nat) (l1 : List Int) (r1 : Int) (r2 : Int) (r3 : Int) (w0 w : World) (hI : IsS63 w0 w g s0_0 s0_1 s0_2) (hB : Below w0.heap.size w0 w) (hr1 : Kd.C (Kd.int .i64) w A1 l1.length l1) (hc1 : l1.length ≤ c1) (hf1 : ∀ ad, A1 = some ad → 0 < l1.length → ad.block ≠ g) (h : spec_l1Cur_among.f s0_0 s0_1 s0_2 l1 = some (r1, r2, r3)) :
  Calls Tryd.prog 63 #[.pointer (some ⟨g, 0, none⟩), .slice A1 l1.length c1] w fun e w' => e = .returned (.int .i64 r1) ∧ IsS63 w0 w' g s0_0 r2 r3 ∧ Below w0.heap.size w0 w' ∧ KeepBut w w' g none := by
 have HR1 := Aside0.mk hr1
 have HC1 := Aside0.mk hc1
 clear hr1 hc1
 have HI0 := Aside0.mk hI
 have HK := Aside0.mk (KeepBut.refl w g none)
 have HL := Aside0.mk hB.size
 clear hI
 have HW0 := Aside0.mk hB.size
 have HB := Aside0.mk hB
 clear hB
 unfold spec_l1Cur_among.f at h
 have H := h
 clear h
 replace H := Option.bind_eq_some_iff.mp H
 obtain ⟨⟨t388, t389, t390⟩, A30, H⟩ := H
 (try dsimp only at H)
 have A3 := Aside0.mk A30
 clear A30
 by_cases c4 : 0 ≤ t388
 ·rw [if_pos c4] at H
  have c4b0 : decide (0 ≤ t388) = true := decide_eq_true c4
  clear c4
  by_cases c5 : t388 < (l1.length : Int)
  ·rw [if_pos c5] at H
   have c5b0 : decide (t388 < (l1.length : Int)) = true := decide_eq_true c5
   clear c5
   simp only [Option.some.injEq, Prod.mk.injEq] at H
   obtain ⟨rfl, rfl, rfl⟩ := H
   go_enter Tryd.func63, Tryd.ntmps63
   go_wp2_with (first | ((with_reducible refine gate_callee (f := 44) rfl ?_); refine gl (some 9) Tryd.func44 #[.pointer (some ⟨g, 0, none⟩), .int .i64 (l1.length : Int)] ?_; (with_reducible refine (spec_l1Cur_pick.calls g s0_0 s0_1 s0_2 (l1.length : Int) t388 t389 t390 w0 _ ?side1 ?side2 A3.out).mono ?_); (case side1 => exact hi63); (case side2 => exact hb63); rintro e w6 ⟨rfl, hi, hb, hk⟩; refine ⟨_, rfl, ?_⟩; replace HK := kt HK hk; replace HB := Aside0.mk (hb); replace HI0 := Aside0.mk (hi); (try clear hb); have p391 : 0 ≤ (t388 : Int) := of_decide_eq_true asm; have q391 : t388 < (l1.length : Int) := of_decide_eq_true asm; obtain ⟨ad391, e391, hx391_0⟩ := Kd.at_int HR1.out t388 p391 q391; cases e391; replace hx391_0 := keep_cell HK.out hx391_0 (by first | (rw [add_block]; exact hf1 _ rfl (by omega)) | exact hf1 _ rfl (by omega) | exact hf1 ad391 rfl (by omega)); replace p391 := eq_true p391; replace q391 := eq_true q391))
   go_ret
   exact ⟨rs, by (try simp only [Int.add_zero]); exact hi63, hb63, hkk⟩
  ·rw [if_neg c5] at H
   exact absurd H (by simp)
 ·rw [if_neg c4] at H
  exact absurd H (by simp)

/-! ### spec_DrawCountByNeighbours: function 51 -/
def spec_DrawCountByNeighbours.f (l0 : List Int) : Option (Int) := (spec_l1Cur_among.f l0 0 0 (([1, 2, 3, 4, 5, 6, 8, 11, 40, 41, 0, (-1)] : List Int))).bind fun bt396 => (some bt396.1)
set_option maxHeartbeats 8000000 in
set_option maxRecDepth 100000 in
theorem spec_DrawCountByNeighbours.calls (A0 : Option Addr) (c0 : Nat) (l0 : List Int) (r : Int) (w : World) (hr0 : Kd.C (Kd.int .u8) w A0 l0.length l0) (hc0 : l0.length ≤ c0) (h : spec_DrawCountByNeighbours.f l0 = some r) :
  Calls Tryd.prog 51 #[.slice A0 l0.length c0] w fun e w' => e = .returned (.int .i64 r) ∧ Below w.heap.size w w' := by
 have hu63 := Tryd.underlying63
 have HR0 := Aside0.mk hr0
 have HC0 := Aside0.mk hc0
 clear hr0 hc0
 have HB := Aside0.mk (Below.refl w.heap.size w)
 unfold spec_DrawCountByNeighbours.f at h
 have H := h
 clear h
 obtain ⟨y393, hy393⟩ : ∃ y_ : List Int, y_ = (([1, 2, 3, 4, 5, 6, 8, 11, 40, 41, 0, (-1)] : List Int)) := ⟨_, rfl⟩
 replace H : ((spec_l1Cur_among.f l0 0 0 y393).bind fun bt396 => (some bt396.1)) = some r := by first | (rw [hy393]; with_reducible exact H) | (have H2_ := (Option.bind_some _ _).symm.trans H; rw [hy393]; with_reducible exact H2_) | (have H2_ := (Option.bind_some _ _).symm.trans H; with_reducible exact H2_) | with_reducible exact H | (rw [hy393]; exact H) | exact H
 have Ny393 := Aside0.mk hy393
 clear hy393
 replace H := Option.bind_eq_some_iff.mp H
 obtain ⟨⟨t396, t397, t398⟩, A20, H⟩ := H
 (try dsimp only at H)
 have A2 := Aside0.mk A20
 clear A20
 obtain rfl := Option.some.inj H
 go_enter Tryd.func51, Tryd.ntmps51
 go_wp2_with (first | ((with_reducible refine gate_dst (N := 6) rfl ?_); refine box_event ?hg (N := 6) ?hd (cs := #[.slice A0 l0.length c0, .int .i64 0, .int .u64 0]) (t := 63) ?hr ?_; (case hd => rfl); (case hg => rfl); (case hr => first | (go_simp; done) | (go_simp; rfl)); intro gb392 hg w3 hbox hb; have GW392 := gs hg; have GE392 := gs hg; have HI392 := Aside0.mk ((show IsS63 w _ gb392 l0 0 0 from ⟨_, _, hbox, (by rw [hg]; exact (below_size bw)), HR0.out⟩)); replace HB := bs hb; clear hb hbox hg) | ((with_reducible refine gate_dst (N := 8) rfl ?_); refine Kd.R_lit (Kd.int .i64) _ 3 ?hg (N := 8) ?hd (xs := ([1, 2, 3, 4, 5, 6, 8, 11, 40, 41, 0, (-1)] : List Int)) (inner := [.int .i64 1, .int .i64 2, .int .i64 3, .int .i64 4, .int .i64 5, .int .i64 6, .int .i64 8, .int .i64 11, .int .i64 40, .int .i64 41, .int .i64 0, .int .i64 (-1)]) (ok := fun _ => True) (okp := fun _ => True) ?hr ?hp (fun _ hk => hk) trivial (Below.refl _ _) (Nat.le_refl _) (by simp) ?_; (case hd => rfl); (case hg => rfl); (case hr => first | (go_simp; done) | (go_simp; rfl)); (case hp => exact (Reps.one (show Kd.M (Kd.int .i64) _ _ _ 1 [.int .i64 1] from rfl) (Reps.one (show Kd.M (Kd.int .i64) _ _ _ 2 [.int .i64 2] from rfl) (Reps.one (show Kd.M (Kd.int .i64) _ _ _ 3 [.int .i64 3] from rfl) (Reps.one (show Kd.M (Kd.int .i64) _ _ _ 4 [.int .i64 4] from rfl) (Reps.one (show Kd.M (Kd.int .i64) _ _ _ 5 [.int .i64 5] from rfl) (Reps.one (show Kd.M (Kd.int .i64) _ _ _ 6 [.int .i64 6] from rfl) (Reps.one (show Kd.M (Kd.int .i64) _ _ _ 8 [.int .i64 8] from rfl) (Reps.one (show Kd.M (Kd.int .i64) _ _ _ 11 [.int .i64 11] from rfl) (Reps.one (show Kd.M (Kd.int .i64) _ _ _ 40 [.int .i64 40] from rfl) (Reps.one (show Kd.M (Kd.int .i64) _ _ _ 41 [.int .i64 41] from rfl) (Reps.one (show Kd.M (Kd.int .i64) _ _ _ 0 [.int .i64 0] from rfl) (Reps.one (show Kd.M (Kd.int .i64) _ _ _ (-1) [.int .i64 (-1)] from rfl) (Reps.none _ _)))))))))))))); intro v394 w4 ho5 hb hg_ hnew_; clear hg_ hnew_; (first | rw [← Ny393.out] at ho5 | (simp only [Int.reduceToNat] at ho5; rw [← Ny393.out] at ho5)); have HO395 := Aside0.mk (Kd.R_lower ho5 (below_size hb63)); replace HB := bt63 HB hb; replace HI392 := ib63 HI392 hb; clear hb ho5; obtain ⟨Ao6, co6, eo6⟩ := Kd.R_slice HO395.out; subst eo6) | ((with_reducible refine gate_callee (f := 63) rfl ?_); refine gl (some 9) Tryd.func63 #[.pointer (some ⟨gb392, 0, none⟩), .slice Ao6 y393.length co6] ?_; (with_reducible refine (spec_l1Cur_among.calls gb392 l0 0 0 _ _ y393 t396 t397 t398 w _ ?side1 ?side2 ?side3 ?side4 ?side5 A2.out).mono ?_); (case side1 => exact hi63); (case side2 => exact hb63); (case side3 => exact rr HO395); (case side4 => exact rn HO395); (case side5 => exact far_slice (IsS63.own_ne HI392.out HO395.out (by decide))); rintro e w7 ⟨rfl, hi, hb, hk⟩; refine ⟨_, rfl, ?_⟩; replace HO395 := Aside0.mk (Kd.R_mono (Kd.R_keep (IsS63.apart (show IsS63 w _ gb392 l0 0 0 from hi63) (pr HO395) (by decide)) hk (fun _ h => h.2)) (fun _ h => h.1)); replace HB := Aside0.mk (hb); replace HI392 := Aside0.mk (hi); (try clear hb)))
 go_ret
 exact ⟨rs, hb63⟩

/-! ### spec_DrawMostRuns: function 29 -/
def spec_DrawMostRuns.f (l0 : List Int) : Option (Int) := (spec_DrawCountByNeighbours.f l0).bind fun t399 => (some t399)
set_option maxHeartbeats 8000000 in
set_option maxRecDepth 100000 in
theorem spec_DrawMostRuns.calls (A0 : Option Addr) (c0 : Nat) (l0 : List Int) (r : Int) (w : World) (hr0 : Kd.C (Kd.int .u8) w A0 l0.length l0) (hc0 : l0.length ≤ c0) (h : spec_DrawMostRuns.f l0 = some r) :
  Calls Tryd.prog 29 #[.slice A0 l0.length c0] w fun e w' => e = .returned (.int .i64 r) ∧ Below w.heap.size w w' := by
 have HR0 := Aside0.mk hr0
 have HC0 := Aside0.mk hc0
 clear hr0 hc0
 have HB := Aside0.mk (Below.refl w.heap.size w)
 unfold spec_DrawMostRuns.f at h
 have H := h
 clear h
 replace H := Option.bind_eq_some_iff.mp H
 obtain ⟨t399, A20, H⟩ := H
 (try dsimp only at H)
 have A2 := Aside0.mk A20
 clear A20
 obtain rfl := Option.some.inj H
 go_enter Tryd.func29, Tryd.ntmps29
 go_wp2_with (first | ((with_reducible refine gate_callee (f := 51) rfl ?_); refine gl (some 4) Tryd.func51 #[.slice A0 l0.length c0] ?_; (with_reducible refine (spec_DrawCountByNeighbours.calls _ _ l0 t399 _ ?side1 ?side2 A2.out).mono ?_); (case side1 => exact cr HR0); (case side2 => exact HC0.out); rintro e w3 ⟨rfl, hb⟩; refine ⟨_, rfl, ?_⟩; replace HB := bs hb; (try clear hb)))
 go_ret
 exact ⟨rs, bw⟩

/-! ### spec_odSoldiers: function 52 -/
def spec_odSoldiers.f (a0 : Int) : Option (Bool) := (spec_l1In.f a0 1 40).bind fun t400 => (some t400)
set_option maxHeartbeats 8000000 in
set_option maxRecDepth 100000 in
theorem spec_odSoldiers.calls (a0 : Int) (r : Bool) (w : World) (h : spec_odSoldiers.f a0 = some r) :
  Calls Tryd.prog 52 #[.int .i64 a0] w fun e w' => e = .returned (.bool r) ∧ Drawn0 w w' := by
 unfold spec_odSoldiers.f at h
 have H := h
 clear h
 replace H := Option.bind_eq_some_iff.mp H
 obtain ⟨t400, A20, H⟩ := H
 (try dsimp only at H)
 have A2 := Aside0.mk A20
 clear A20
 obtain rfl := Option.some.inj H
 go_enter Tryd.func52, Tryd.ntmps52
 go_wp2_with (first | ((with_reducible refine gate_callee (f := 46) rfl ?_); refine gl (some 4) Tryd.func46 #[.int .i64 a0, .int .i64 1, .int .i64 40] ?_; (with_reducible refine (spec_l1In.calls a0 1 40 t400 _ A2.out).mono ?_); rintro e w' ⟨rfl, ⟨nd, rfl⟩⟩; refine ⟨_, rfl, ?_⟩))
 go_ret
 exact ⟨rs, by repeat (first | exact Drawn0.refl _ | apply Drawn0.step)⟩

/-! ### spec_MostRuns: function 30 -/
def spec_MostRuns.f (a0 : Int) : Option (Int × Bool) := (spec_odSoldiers.f a0).bind fun t401 => (if t401 = true then (some (wrap64 (Int.tdiv (wrap64 (a0 + 1)) 2), true)) else (some (0, false)))
set_option maxHeartbeats 8000000 in
set_option maxRecDepth 100000 in
theorem spec_MostRuns.calls (a0 : Int) (r1 : Int) (r2 : Bool) (w : World) (h : spec_MostRuns.f a0 = some (r1, r2)) :
  Calls Tryd.prog 30 #[.int .i64 a0] w fun e w' => e = .returned (.tuple #[.int .i64 r1, .bool r2]) ∧ Drawn0 w w' := by
 unfold spec_MostRuns.f at h
 have H := h
 clear h
 replace H := Option.bind_eq_some_iff.mp H
 obtain ⟨t401, A20, H⟩ := H
 (try dsimp only at H)
 have A2 := Aside0.mk A20
 clear A20
 by_cases c3 : t401 = true
 ·subst c3
  rw [if_pos rfl] at H
  simp only [Option.some.injEq, Prod.mk.injEq] at H
  obtain ⟨rfl, rfl⟩ := H
  go_enter Tryd.func30, Tryd.ntmps30
  go_wp2_with (first | ((with_reducible refine gate_callee (f := 52) rfl ?_); refine gl (some 5) Tryd.func52 #[.int .i64 a0] ?_; (with_reducible refine (spec_odSoldiers.calls a0 true _ A2.out).mono ?_); rintro e w' ⟨rfl, ⟨nd, rfl⟩⟩; refine ⟨_, rfl, ?_⟩))
  go_ret2
  exact ⟨rs, by repeat (first | exact Drawn0.refl _ | apply Drawn0.step)⟩
 ·replace c3 := Bool.eq_false_iff.mpr c3
  subst c3
  rw [if_neg (show ¬ (false = true) by decide)] at H
  simp only [Option.some.injEq, Prod.mk.injEq] at H
  obtain ⟨rfl, rfl⟩ := H
  go_enter Tryd.func30, Tryd.ntmps30
  go_wp2_with (first | ((with_reducible refine gate_callee (f := 52) rfl ?_); refine gl (some 5) Tryd.func52 #[.int .i64 a0] ?_; (with_reducible refine (spec_odSoldiers.calls a0 false _ A2.out).mono ?_); rintro e w' ⟨rfl, ⟨nd, rfl⟩⟩; refine ⟨_, rfl, ?_⟩))
  go_ret2
  exact ⟨rs, by repeat (first | exact Drawn0.refl _ | apply Drawn0.step)⟩

end Go.Proofs.YteoklfgmdcofcaaDoor.PFnOrdersTurn
