-- Laid by xprint, a program of this session that runs over the kit's print.
import Derived.Test.YtefihklpegcmpaaGreatDoorPFnSignalsReachOfAllx0
namespace Go.Proofs.YtefihklpegcmpaaGreatDoor.PFnSignalsReachOfAll
open Go.RowKit Go.Proofs.YtefihklpegcmpaaGreatDoorW.PrintWords Go.Proofs.YtefihklpegcmpaaGreatDoorW.PrintLast Go.Proofs.YtefihklpegcmpaaGreatDoorW.PrintMore Go.Proofs.YtefihklpegcmpaaGreatDoor.Sq
attribute [local go_sem] max2_int min2_int max_two min_two max_three min_three max_four min_four   -- for this text's walks alone
set_option linter.unusedVariables false
set_option linter.unusedSimpArgs false

/-! ### impl_in: function 44 -/
def impl_in.f (a0 : Int) (a1 : Int) (a2 : Int) : Option (Bool) := if a1 ≤ a0 then (some (decide (a0 ≤ a2))) else (some false)
set_option maxHeartbeats 8000000 in
set_option maxRecDepth 100000 in
theorem impl_in.calls (a0 : Int) (a1 : Int) (a2 : Int) (r : Bool) (w : World) (h : impl_in.f a0 a1 a2 = some r) :
  Calls Tryz.prog 44 #[.int .i64 a0, .int .i64 a1, .int .i64 a2] w fun e w' => e = .returned (.bool r) ∧ Drawn0 w w' := by
 unfold impl_in.f at h
 have H := h
 clear h
 by_cases c4 : a1 ≤ a0
 ·rw [if_pos c4] at H
  have c4b0 : decide (a1 ≤ a0) = true := decide_eq_true c4
  clear c4
  obtain rfl := Option.some.inj H
  go_enter Tryz.func44, Tryz.ntmps44
  go_wp2
  go_ret
  exact ⟨rs, by repeat (first | exact Drawn0.refl _ | apply Drawn0.step)⟩
 ·rw [if_neg c4] at H
  have c4b0 : decide (a1 ≤ a0) = false := decide_eq_false c4
  clear c4
  obtain rfl := Option.some.inj H
  go_enter Tryz.func44, Tryz.ntmps44
  go_wp2
  go_ret
  exact ⟨rs, by repeat (first | exact Drawn0.refl _ | apply Drawn0.step)⟩

/-! ### impl_isSignalRow: function 51 -/
def impl_isSignalRow.f (a0 : Int) : Option (Bool) := (impl_in.f a0 1 100).bind fun t101 => (some t101)
set_option maxHeartbeats 8000000 in
set_option maxRecDepth 100000 in
theorem impl_isSignalRow.calls (a0 : Int) (r : Bool) (w : World) (h : impl_isSignalRow.f a0 = some r) :
  Calls Tryz.prog 51 #[.int .i64 a0] w fun e w' => e = .returned (.bool r) ∧ Drawn0 w w' := by
 unfold impl_isSignalRow.f at h
 have H := h
 clear h
 replace H := Option.bind_eq_some_iff.mp H
 obtain ⟨t101, A20, H⟩ := H
 (try dsimp only at H)
 have A2 := Aside0.mk A20
 clear A20
 obtain rfl := Option.some.inj H
 go_enter Tryz.func51, Tryz.ntmps51
 go_wp2_with (first | ((with_reducible refine gate_callee (f := 44) rfl ?_); refine gl (some 4) Tryz.func44 #[.int .i64 a0, .int .i64 1, .int .i64 100] ?_; (with_reducible refine (impl_in.calls a0 1 100 t101 _ A2.out).mono ?_); rintro e w' ⟨rfl, ⟨nd, rfl⟩⟩; refine ⟨_, rfl, ?_⟩))
 go_ret
 exact ⟨rs, by repeat (first | exact Drawn0.refl _ | apply Drawn0.step)⟩

/-! ### impl_isSignal: function 57 -/
def impl_isSignal.f (a0 : Int) (a1_0 : Int) (a1_1 : Bool) (a1_2 : Int) : Option (Bool) := (impl_isSignalRow.f a0).bind fun t103 => (if t103 = true then ((impl_in.f a1_0 0 (wrap64 (a0 - 1))).bind fun t104 => (if t104 = true then ((impl_in.f a1_2 1 10).bind fun t105 => (some t105)) else (some false))) else (some false))
set_option maxHeartbeats 8000000 in
set_option maxRecDepth 100000 in
theorem impl_isSignal.calls (a0 : Int) (a1_0 : Int) (a1_1 : Bool) (a1_2 : Int) (r : Bool) (w : World) (h : impl_isSignal.f a0 a1_0 a1_1 a1_2 = some r) :
  Calls Tryz.prog 57 #[.int .i64 a0, .agg #[.int .i64 a1_0, .bool a1_1, .int .i64 a1_2]] w fun e w' => e = .returned (.bool r) ∧ Below w.heap.size w w' := by
 have hu25 := Tryz.underlying25
 have HB := Aside0.mk (Below.refl w.heap.size w)
 unfold impl_isSignal.f at h
 have H := h
 clear h
 replace H := Option.bind_eq_some_iff.mp H
 obtain ⟨t103, A30, H⟩ := H
 (try dsimp only at H)
 have A3 := Aside0.mk A30
 clear A30
 by_cases c4 : t103 = true
 ·subst c4
  rw [if_pos rfl] at H
  replace H := Option.bind_eq_some_iff.mp H
  obtain ⟨t104, A50, H⟩ := H
  (try dsimp only at H)
  have A5 := Aside0.mk A50
  clear A50
  by_cases c6 : t104 = true
  ·subst c6
   rw [if_pos rfl] at H
   replace H := Option.bind_eq_some_iff.mp H
   obtain ⟨t105, A70, H⟩ := H
   (try dsimp only at H)
   have A7 := Aside0.mk A70
   clear A70
   obtain rfl := Option.some.inj H
   go_enter Tryz.func57, Tryz.ntmps57
   go_wp2_with (first | ((with_reducible refine gate_dst (N := 3) rfl ?_); refine bx 3 25 #[.int .i64 a1_0, .bool a1_1, .int .i64 a1_2] ?_; intro gb102 hg w8 hbox hb; have BK102 := hbox; have GW102 := gs hg; have GE102 := gs hg; replace HB := bs hb; clear hb hbox hg) | ((with_reducible refine gate_callee (f := 51) rfl ?_); refine gl (some 6) Tryz.func51 #[.int .i64 a0] ?_; (with_reducible refine (impl_isSignalRow.calls a0 true _ A3.out).mono ?_); rintro e w' ⟨rfl, ⟨nd, rfl⟩⟩; refine ⟨_, rfl, ?_⟩; have hcz9_0 := bc BK102 0 (.int .i64 a1_0); have hcz9_1 := bc BK102 1 (.bool a1_1); have hcz9_2 := bc BK102 2 (.int .i64 a1_2); have hfz9_0 := blk_frozen BK102.out 0; have hfz9_1 := blk_frozen BK102.out 1; have hfz9_2 := blk_frozen BK102.out 2) | (go_at_call 44; (with_reducible refine (impl_in.calls a1_0 0 (wrap64 (a0 - 1)) true _ A5.out).mono ?_); rintro e w' ⟨rfl, ⟨nd, rfl⟩⟩) | (go_at_call 44; (with_reducible refine (impl_in.calls a1_2 1 10 t105 _ A7.out).mono ?_); rintro e w' ⟨rfl, ⟨nd, rfl⟩⟩))
   go_ret
   exact ⟨rs, bw⟩
  ·replace c6 := Bool.eq_false_iff.mpr c6
   subst c6
   rw [if_neg (show ¬ (false = true) by decide)] at H
   obtain rfl := Option.some.inj H
   go_enter Tryz.func57, Tryz.ntmps57
   go_wp2_with (first | ((with_reducible refine gate_dst (N := 3) rfl ?_); refine bx 3 25 #[.int .i64 a1_0, .bool a1_1, .int .i64 a1_2] ?_; intro gb102 hg w10 hbox hb; have BK102 := hbox; have GW102 := gs hg; have GE102 := gs hg; replace HB := bs hb; clear hb hbox hg) | ((with_reducible refine gate_callee (f := 51) rfl ?_); refine gl (some 6) Tryz.func51 #[.int .i64 a0] ?_; (with_reducible refine (impl_isSignalRow.calls a0 true _ A3.out).mono ?_); rintro e w' ⟨rfl, ⟨nd, rfl⟩⟩; refine ⟨_, rfl, ?_⟩; have hcz11_0 := bc BK102 0 (.int .i64 a1_0); have hcz11_1 := bc BK102 1 (.bool a1_1); have hcz11_2 := bc BK102 2 (.int .i64 a1_2); have hfz11_0 := blk_frozen BK102.out 0; have hfz11_1 := blk_frozen BK102.out 1; have hfz11_2 := blk_frozen BK102.out 2) | (go_at_call 44; (with_reducible refine (impl_in.calls a1_0 0 (wrap64 (a0 - 1)) false _ A5.out).mono ?_); rintro e w' ⟨rfl, ⟨nd, rfl⟩⟩))
   go_ret
   exact ⟨rs, bw⟩
 ·replace c4 := Bool.eq_false_iff.mpr c4
  subst c4
  rw [if_neg (show ¬ (false = true) by decide)] at H
  obtain rfl := Option.some.inj H
  go_enter Tryz.func57, Tryz.ntmps57
  go_wp2_with (first | ((with_reducible refine gate_dst (N := 3) rfl ?_); refine bx 3 25 #[.int .i64 a1_0, .bool a1_1, .int .i64 a1_2] ?_; intro gb102 hg w12 hbox hb; have BK102 := hbox; have GW102 := gs hg; have GE102 := gs hg; replace HB := bs hb; clear hb hbox hg) | ((with_reducible refine gate_callee (f := 51) rfl ?_); refine gl (some 6) Tryz.func51 #[.int .i64 a0] ?_; (with_reducible refine (impl_isSignalRow.calls a0 false _ A3.out).mono ?_); rintro e w' ⟨rfl, ⟨nd, rfl⟩⟩; refine ⟨_, rfl, ?_⟩))
  go_ret
  exact ⟨rs, bw⟩

/-! ### impl_areSignals: function 30 -/
def impl_areSignals_clo.f (s0 : Int) (x0 : Int) (x1 : Bool) (x2 : Int) : Option Bool := (impl_isSignal.f s0 x0 x1 x2).bind fun t => some (!t)
set_option maxHeartbeats 8000000 in
set_option maxRecDepth 100000 in
theorem impl_areSignals_clo.calls (g : Nat) (s0 : Int) (x0 : Int) (x1 : Bool) (x2 : Int) (r : Bool) (w : World) (hg0 : w.cell? ⟨g, 0, none⟩ = some (.int .i64 s0)) (h : impl_areSignals_clo.f s0 x0 x1 x2 = some r) :
  Calls Tryz.prog 65 (#[.agg #[.int .i64 x0, .bool x1, .int .i64 x2]] ++ #[.pointer (some ⟨g, 0, none⟩)]) w fun e w' => e = .returned (.bool r) ∧ Below w.heap.size w w' := by
 have hu := Tryz.underlying25
 have HB := Aside0.mk (Below.refl w.heap.size w)
 have HG0 := Aside0.mk hg0
 clear hg0
 replace h := Option.bind_eq_some_iff.mp h
 obtain ⟨t, A0, H⟩ := h
 have A1 := Aside0.mk A0
 clear A0
 obtain rfl := Option.some.inj H
 clear H
 show Calls Tryz.prog 65 #[.agg #[.int .i64 x0, .bool x1, .int .i64 x2], .pointer (some ⟨g, 0, none⟩)] w _
 go_enter Tryz.func65, Tryz.ntmps65
 go_wp2_with (first | ((with_reducible refine gate_dst (N := 2) rfl ?_); refine box_event ?hg (N := 2) ?hd (cs := #[.int .i64 x0, .bool x1, .int .i64 x2]) (t := 25) ?hr ?_; (case hd => rfl); (case hg => rfl); (case hr => first | (go_simp; done) | (go_simp; rfl)); intro gb hg w8 hbox hb; have n0_ := Aside0.mk (below_step (by repeat (first | exact HB.out | apply pw_below_drewN)) hb); have n1_ := Aside0.mk hbox; have hcg0 : w8.cell? ⟨g, 0, none⟩ = some (.int .i64 s0) := (hb.cell (World.block_lt_of_cell? w _ HG0.out)).trans HG0.out; have hcz0 : w8.cell? ⟨gb, 0, none⟩ = some (.int .i64 x0) := (blk_cell n1_.out 0).trans rfl; have hcz1 : w8.cell? ⟨gb, 1, none⟩ = some (.bool x1) := (blk_cell n1_.out 1).trans rfl; have hcz2 : w8.cell? ⟨gb, 2, none⟩ = some (.int .i64 x2) := (blk_cell n1_.out 2).trans rfl; clear HB; have HB := n0_; have BK1 := n1_; clear n0_ n1_ hb hbox hg) | (go_at_call 57; (with_reducible refine (impl_isSignal.calls s0 x0 x1 x2 t _ A1.out).mono ?_); rintro e w' ⟨rfl, hb⟩; have n0_ := Aside0.mk (below_step HB.out hb); clear HB; have HB := n0_; clear n0_ hb))
 go_ret
 exact ⟨by first | rfl | simp, by repeat (first | exact HB.out | apply pw_below_drewN)⟩
def impl_areSignals_idx.l0 : Nat → Int → List (S25) → Int → Option Int
  | 0, _, _, _ => none
  | k + 1, s0, l, i => if i < (l.length : Int) then (if 0 ≤ i then ((impl_areSignals_clo.f s0 (rd_T25 l i).f0 (rd_T25 l i).f1 (rd_T25 l i).f2).bind fun t => (if t = true then (some i) else (impl_areSignals_idx.l0 k s0 l (wrap64 (i + 1))))) else none) else (some (-1))
theorem impl_areSignals_idx.mono_l : ∀ k, (∀ y0 y1 y2, LeO (impl_areSignals_idx.l0 k y0 y1 y2) (impl_areSignals_idx.l0 (k + 1) y0 y1 y2))
  | 0 => fun _ _ _ r h => by simp [impl_areSignals_idx.l0] at h
  | k + 1 => by
    have ih0 := impl_areSignals_idx.mono_l k
    · intro y0 y1 y2
      unfold impl_areSignals_idx.l0
      repeat' first
      | (with_reducible exact ih0 _ _ _)
      | (with_reducible exact LeO.refl _)
      | (with_reducible exact LeO.none _)
      | (with_reducible refine LeO.ite ?_ ?_)
      | (with_reducible refine LeO.bind ?_ (fun _ => ?_))
set_option maxHeartbeats 8000000 in
set_option maxRecDepth 100000 in
theorem impl_areSignals_idx.calls (k : Nat) (g : Nat) (s0 : Int) (A0 : Option Addr) (c0 : Nat) (l0 : List (S25)) (r : Int) (w : World) (hr0 : Kd.C k25 w A0 l0.length l0) (hc0 : l0.length ≤ c0) (hg0 : w.cell? ⟨g, 0, none⟩ = some (.int .i64 s0)) (h : impl_areSignals_idx.l0 k s0 l0 0 = some r) :
  Calls Tryz.prog 81 #[.slice A0 l0.length c0, .func (.func 65) #[] #[.pointer (some ⟨g, 0, none⟩)]] w fun e w' => e = .returned (.int .i64 r) ∧ Below w.heap.size w w' := by
 have hu := Tryz.underlying25
 have HR0 := Aside0.mk hr0
 have HC0 := Aside0.mk hc0
 clear hr0 hc0
 have HG0 := Aside0.mk hg0
 clear hg0
 have HB := Aside0.mk (Below.refl w.heap.size w)
 have H' := Aside0.mk h
 clear h
 go_enter Tryz.func81, Tryz.ntmps81
 go_wp2
 go_loopg [8] k (fun kq v8 w' => ∃ (x8 : Int), v8 = .int .i64 x8 ∧ Aside0 (impl_areSignals_idx.l0 kq s0 l0 x8 = some r) ∧ Aside0 (kq ≤ k) ∧ Aside0 (Below w.heap.size w w'))
 case atStart => exact ⟨(0), (rs), H', ⟨Nat.le_refl _⟩, HB⟩
 case round =>
  clear H' HB
  obtain ⟨x8, rfl, HA, HK1, HB⟩ := hrel
  cases gk with
  | zero => exact absurd HA.out (by simp [impl_areSignals_idx.l0])
  | succ k1 =>
   have H := HA.out
   clear HA
   simp only [impl_areSignals_idx.l0] at H
   by_cases c4 : x8 < (l0.length : Int)
   ·rw [if_pos c4] at H
    have c4b0 : decide (x8 < (l0.length : Int)) = true := decide_eq_true c4
    by_cases c5 : 0 ≤ x8
    ·rw [if_pos c5] at H
     have c5b0 : decide (0 ≤ x8) = true := decide_eq_true c5
     replace H := Option.bind_eq_some_iff.mp H
     obtain ⟨t1, A0', H⟩ := H
     have A1 := Aside0.mk A0'
     clear A0'
     obtain ⟨ad, e1, hx0, hx1, hx2⟩ := at_T25 HR0.out x8 c5 c4
     cases e1
     replace hx0 := (HB.out.cell (World.block_lt_of_cell? w _ hx0)).trans hx0
     replace hx1 := (HB.out.cell (World.block_lt_of_cell? w _ hx1)).trans hx1
     replace hx2 := (HB.out.cell (World.block_lt_of_cell? w _ hx2)).trans hx2
     have p1 := eq_true c5
     have q1 := eq_true c4
     clear c4 c5
     cases t1 with
     | true =>
      obtain rfl := Option.some.inj H
      clear H
      go_wp2_with (((with_reducible refine gate_dst (N := 16) rfl ?_); refine Fv.goesV_ (some 16) rfl rfl Tryz.func65 (by kernel_rfl) rfl #[.agg #[.int .i64 (rd_T25 l0 x8).f0, .bool (rd_T25 l0 x8).f1, .int .i64 (rd_T25 l0 x8).f2]] rfl (by first | rfl | (go_simp; done)) (by first | rfl | (go_simp; done)) ?_; (refine (impl_areSignals_clo.calls g s0  _ _ _ _ _ ((HB.out.cell (World.block_lt_of_cell? w _ HG0.out)).trans HG0.out) A1.out).mono ?_); rintro e w' ⟨rfl, hb⟩; refine ⟨_, rfl, ?_⟩; have n0_ := Aside0.mk (below_step HB.out hb); clear HB; have HB := n0_; clear n0_ hb))
      go_ret
      exact ⟨by first | rfl | simp, HB.out⟩
     | false =>
      have H' := Aside0.mk (show impl_areSignals_idx.l0 k1 s0 l0 (wrap64 (x8 + 1)) = some r from by simpa using H)
      clear H
      go_wp2_with (((with_reducible refine gate_dst (N := 16) rfl ?_); refine Fv.goesV_ (some 16) rfl rfl Tryz.func65 (by kernel_rfl) rfl #[.agg #[.int .i64 (rd_T25 l0 x8).f0, .bool (rd_T25 l0 x8).f1, .int .i64 (rd_T25 l0 x8).f2]] rfl (by first | rfl | (go_simp; done)) (by first | rfl | (go_simp; done)) ?_; (refine (impl_areSignals_clo.calls g s0  _ _ _ _ _ ((HB.out.cell (World.block_lt_of_cell? w _ HG0.out)).trans HG0.out) A1.out).mono ?_); rintro e w' ⟨rfl, hb⟩; refine ⟨_, rfl, ?_⟩; have n0_ := Aside0.mk (below_step HB.out hb); clear HB; have HB := n0_; clear n0_ hb))
      go_roundg k1
      case measure => have := HK1.out; omega
      case rel => exact ⟨(wrap64 (x8 + 1)), (rs), H', ⟨by have := HK1.out; omega⟩, HB⟩
    ·rw [if_neg c5] at H
     exact absurd H (by simp)
   ·rw [if_neg c4] at H
    have c4b0 : decide (x8 < (l0.length : Int)) = false := decide_eq_false c4
    clear c4
    obtain rfl := Option.some.inj H
    clear H
    go_wp2
    go_ret
    exact ⟨by first | rfl | simp, HB.out⟩
def impl_areSignals_has.f (k : Nat) (s0 : Int) (l : List (S25)) : Option Bool := (impl_areSignals_idx.l0 k s0 l 0).bind fun i => some (decide (0 ≤ i))
theorem impl_areSignals_has.mono : ∀ s0 a0 k, LeO (impl_areSignals_has.f k s0 a0) (impl_areSignals_has.f (k + 1) s0 a0) := by
  intro s0 a0 k
  unfold impl_areSignals_has.f
  repeat' first
      | (with_reducible exact impl_areSignals_idx.mono_l k _ _ _)
      | (with_reducible exact LeO.refl _)
      | (with_reducible exact LeO.none _)
      | (with_reducible refine LeO.ite ?_ ?_)
      | (with_reducible refine LeO.bind ?_ (fun _ => ?_))
set_option maxHeartbeats 8000000 in
set_option maxRecDepth 100000 in
theorem impl_areSignals_has.calls (k : Nat) (g : Nat) (s0 : Int) (A0 : Option Addr) (c0 : Nat) (l0 : List (S25)) (r : Bool) (w : World) (hr0 : Kd.C k25 w A0 l0.length l0) (hc0 : l0.length ≤ c0) (hg0 : w.cell? ⟨g, 0, none⟩ = some (.int .i64 s0)) (h : impl_areSignals_has.f k s0 l0 = some r) :
  Calls Tryz.prog 64 #[.slice A0 l0.length c0, .func (.func 65) #[] #[.pointer (some ⟨g, 0, none⟩)]] w fun e w' => e = .returned (.bool r) ∧ Below w.heap.size w w' := by
 have HR0 := Aside0.mk hr0
 have HC0 := Aside0.mk hc0
 clear hr0 hc0
 have HG0 := Aside0.mk hg0
 clear hg0
 have HB := Aside0.mk (Below.refl w.heap.size w)
 replace h := Option.bind_eq_some_iff.mp h
 obtain ⟨t, A0', H⟩ := h
 have A1 := Aside0.mk A0'
 clear A0'
 obtain rfl := Option.some.inj H
 clear H
 go_enter Tryz.func64, Tryz.ntmps64
 go_wp2_with (go_at_call 81; (refine (impl_areSignals_idx.calls k g s0 A0 c0 l0 t _ HR0.out HC0.out HG0.out A1.out).mono ?_); rintro e w' ⟨rfl, hb⟩; have n0_ := Aside0.mk (below_step HB.out hb); clear HB; have HB := n0_; clear n0_ hb)
 go_ret
 exact ⟨by first | rfl | simp, HB.out⟩
def impl_areSignals.f (k : Nat) (a0 : Int) (l1 : List S25) : Option Bool := (impl_isSignalRow.f a0).bind fun t1 => (if t1 = true then ((impl_in.f (l1.length : Int) 1 10).bind fun t2 => (if t2 = true then ((impl_areSignals_has.f k a0 l1).bind fun t3 => (some (!t3))) else (some false))) else (some false))
theorem impl_areSignals.mono : ∀ a0 a1 k, LeO (impl_areSignals.f k a0 a1) (impl_areSignals.f (k + 1) a0 a1) := by
  intro a0 a1 k
  unfold impl_areSignals.f
  repeat' first
      | (with_reducible exact impl_areSignals_has.mono _ _ k)
      | (with_reducible exact LeO.refl _)
      | (with_reducible exact LeO.none _)
      | (with_reducible refine LeO.ite ?_ ?_)
      | (with_reducible refine LeO.bind ?_ (fun _ => ?_))
set_option maxHeartbeats 8000000 in
set_option maxRecDepth 100000 in
theorem impl_areSignals.calls (k : Nat) (a0 : Int) (A1 : Option Addr) (c1 : Nat) (l1 : List (S25)) (r : Bool) (w : World) (hr1 : Kd.C k25 w A1 l1.length l1) (hc1 : l1.length ≤ c1) (h : impl_areSignals.f k a0 l1 = some r) :
  Calls Tryz.prog 30 #[.int .i64 a0, .slice A1 l1.length c1] w fun e w' => e = .returned (.bool r) ∧ Below w.heap.size w w' := by
 have HR1 := Aside0.mk hr1
 have HC1 := Aside0.mk hc1
 clear hr1 hc1
 have HB := Aside0.mk (Below.refl w.heap.size w)
 replace h := Option.bind_eq_some_iff.mp h
 obtain ⟨t1, A0', H⟩ := h
 have Ax := Aside0.mk A0'
 clear A0'
 have hu3 := Tryz.underlying3
 cases t1 with
 | false =>
  obtain rfl := Option.some.inj (show (some false) = some r from by simpa using H)
  clear H
  go_enter Tryz.func30, Tryz.ntmps30
  go_wp2_with (first | ((with_reducible refine gate_dst (N := 2) rfl ?_); refine box_event ?hg (N := 2) ?hd (cs := #[.int .i64 a0]) (t := 3) ?hr ?_; (case hd => rfl); (case hg => rfl); (case hr => first | (go_simp; done) | (go_simp; rfl)); intro gb hg w8 hbox hb; have n0_ := Aside0.mk (below_step (by repeat (first | exact HB.out | apply pw_below_drewN)) hb); have n1_ := Aside0.mk hbox; have hcz0 : w8.cell? ⟨gb, 0, none⟩ = some (.int .i64 a0) := (blk_cell n1_.out 0).trans rfl; clear HB; have HB := n0_; have BK1 := n1_; clear n0_ n1_ hb hbox hg) | (go_at_call 51; (with_reducible refine (impl_isSignalRow.calls a0 false _ Ax.out).mono ?_); rintro e w' ⟨rfl, ⟨nd, rfl⟩⟩))
  go_ret
  exact ⟨by first | rfl | simp, by repeat (first | exact HB.out | apply pw_below_drewN)⟩
 | true =>
  replace H : ((impl_in.f (l1.length : Int) 1 10).bind fun t2 => (if t2 = true then ((impl_areSignals_has.f k a0 l1).bind fun t3 => (some (!t3))) else (some false))) = some r := by simpa using H
  replace H := Option.bind_eq_some_iff.mp H
  obtain ⟨t2, A0', H⟩ := H
  have Ay := Aside0.mk A0'
  clear A0'
  cases t2 with
  | false =>
   obtain rfl := Option.some.inj (show (some false) = some r from by simpa using H)
   clear H
   go_enter Tryz.func30, Tryz.ntmps30
   go_wp2_with (first | ((with_reducible refine gate_dst (N := 2) rfl ?_); refine box_event ?hg (N := 2) ?hd (cs := #[.int .i64 a0]) (t := 3) ?hr ?_; (case hd => rfl); (case hg => rfl); (case hr => first | (go_simp; done) | (go_simp; rfl)); intro gb hg w8 hbox hb; have n0_ := Aside0.mk (below_step (by repeat (first | exact HB.out | apply pw_below_drewN)) hb); have n1_ := Aside0.mk hbox; have hcz0 : w8.cell? ⟨gb, 0, none⟩ = some (.int .i64 a0) := (blk_cell n1_.out 0).trans rfl; clear HB; have HB := n0_; have BK1 := n1_; clear n0_ n1_ hb hbox hg) | (go_at_call 51; (with_reducible refine (impl_isSignalRow.calls a0 true _ Ax.out).mono ?_); rintro e w' ⟨rfl, ⟨nd, rfl⟩⟩) | (go_at_call 44; (with_reducible refine (impl_in.calls (l1.length : Int) 1 10 false _ Ay.out).mono ?_); rintro e w' ⟨rfl, ⟨nd2, rfl⟩⟩))
   go_ret
   exact ⟨by first | rfl | simp, by repeat (first | exact HB.out | apply pw_below_drewN)⟩
  | true =>
   replace H : ((impl_areSignals_has.f k a0 l1).bind fun t3 => (some (!t3))) = some r := by simpa using H
   replace H := Option.bind_eq_some_iff.mp H
   obtain ⟨t3, A0', H⟩ := H
   have Az := Aside0.mk A0'
   clear A0'
   obtain rfl := Option.some.inj H
   clear H
   go_enter Tryz.func30, Tryz.ntmps30
   go_wp2_with (first | ((with_reducible refine gate_dst (N := 2) rfl ?_); refine box_event ?hg (N := 2) ?hd (cs := #[.int .i64 a0]) (t := 3) ?hr ?_; (case hd => rfl); (case hg => rfl); (case hr => first | (go_simp; done) | (go_simp; rfl)); intro gb hg w8 hbox hb; have n0_ := Aside0.mk (below_step (by repeat (first | exact HB.out | apply pw_below_drewN)) hb); have n1_ := Aside0.mk hbox; have hcz0 : w8.cell? ⟨gb, 0, none⟩ = some (.int .i64 a0) := (blk_cell n1_.out 0).trans rfl; clear HB; have HB := n0_; have BK1 := n1_; clear n0_ n1_ hb hbox hg) | (go_at_call 51; (with_reducible refine (impl_isSignalRow.calls a0 true _ Ax.out).mono ?_); rintro e w' ⟨rfl, ⟨nd, rfl⟩⟩) | (go_at_call 44; (with_reducible refine (impl_in.calls (l1.length : Int) 1 10 true _ Ay.out).mono ?_); rintro e w' ⟨rfl, ⟨nd2, rfl⟩⟩) | (go_at_call 64; (refine (impl_areSignals_has.calls k gb a0 A1 c1 l1 t3 _ (Kd.C_below HR1.out (by repeat (first | exact HB.out | apply pw_below_drewN))) HC1.out (by first | exact hcz0 | (go_simp; done)) Az.out).mono ?_); rintro e w' ⟨rfl, hb⟩; have n0_ := Aside0.mk (below_step (by repeat (first | exact HB.out | apply pw_below_drewN)) hb); clear HB; have HB := n0_; clear n0_ hb))
   go_ret
   exact ⟨by first | rfl | simp, by repeat (first | exact HB.out | apply pw_below_drewN)⟩

/-! ### impl_isSignalTime: function 31 -/
def impl_isSignalTime.f (a0 : Int) : Option (Bool) := (impl_in.f a0 0 100000).bind fun t106 => (some t106)
set_option maxHeartbeats 8000000 in
set_option maxRecDepth 100000 in
theorem impl_isSignalTime.calls (a0 : Int) (r : Bool) (w : World) (h : impl_isSignalTime.f a0 = some r) :
  Calls Tryz.prog 31 #[.int .i64 a0] w fun e w' => e = .returned (.bool r) ∧ Drawn0 w w' := by
 unfold impl_isSignalTime.f at h
 have H := h
 clear h
 replace H := Option.bind_eq_some_iff.mp H
 obtain ⟨t106, A20, H⟩ := H
 (try dsimp only at H)
 have A2 := Aside0.mk A20
 clear A20
 obtain rfl := Option.some.inj H
 go_enter Tryz.func31, Tryz.ntmps31
 go_wp2_with (first | ((with_reducible refine gate_callee (f := 44) rfl ?_); refine gl (some 4) Tryz.func44 #[.int .i64 a0, .int .i64 0, .int .i64 100000] ?_; (with_reducible refine (impl_in.calls a0 0 100000 t106 _ A2.out).mono ?_); rintro e w' ⟨rfl, ⟨nd, rfl⟩⟩; refine ⟨_, rfl, ?_⟩))
 go_ret
 exact ⟨rs, by repeat (first | exact Drawn0.refl _ | apply Drawn0.step)⟩

/-! ### impl_around: function 67 -/
def impl_around.f (a0 : Int) : Option (Int) := some (mx (wrap64 (2 * (wrap64 (a0 - 1)))) 1)
set_option maxHeartbeats 8000000 in
set_option maxRecDepth 100000 in
theorem impl_around.calls (a0 : Int) (r : Int) (w : World) (h : impl_around.f a0 = some r) :
  Calls Tryz.prog 67 #[.int .i64 a0] w fun e w' => e = .returned (.int .i64 r) ∧ Below w.heap.size w w' := by
 have HB := Aside0.mk (Below.refl w.heap.size w)
 unfold impl_around.f at h
 have H := h
 clear h
 obtain ⟨ji2, hji2⟩ : ∃ j_ : Int, (mx (wrap64 (2 * (wrap64 (a0 - 1)))) 1) = j_ := ⟨_, rfl⟩
 replace H : (some ji2) = some r := by first | (rw [hji2] at H; exact H) | (simp only [hji2] at H ⊢; exact H)
 (try (have hji2l : 1 ≤ ji2 := by (rw [← hji2]; unfold mx; (repeat' split) <;> omega)))
 (try (have hji2m : 0 ≤ ji2 := by omega))
 have hji2_ : (if (wrap64 (2 * (wrap64 (a0 - 1)))) < 1 then 1 else (wrap64 (2 * (wrap64 (a0 - 1))))) = ji2 := hji2
 obtain rfl := Option.some.inj H
 go_enter Tryz.func67, Tryz.ntmps67
 go_wp2
 go_ret
 exact ⟨by first | rfl | (simp [errW_none, errW_some] <;> rfl) | (simp only [← hji2]; first | rfl | (simp [errW_none, errW_some] <;> rfl)) | (simp [*, errW_none, errW_some] <;> rfl), bw⟩

/-! ### impl_Signal_place: function 54 -/
def impl_Signal_place.f (a0_0 : Int) (a0_1 : Bool) (a0_2 : Int) (a1 : Int) (a2 : Int) : Option (Int) := if a1 = 1 then (some 0) else ((impl_around.f a1).bind fun t108 => (if a0_1 = true then (if a0_2 = 0 then (none) else (if t108 = 0 then (none) else (some (mn (Int.tmod (wrap64 ((wrap64 (t108 - a0_0)) + (wrap64 (Int.tdiv a2 a0_2)))) t108) (wrap64 (t108 - (Int.tmod (wrap64 ((wrap64 (t108 - a0_0)) + (wrap64 (Int.tdiv a2 a0_2)))) t108))))))) else (if a0_2 = 0 then (none) else (if t108 = 0 then (none) else (some (mn (Int.tmod (wrap64 (a0_0 + (wrap64 (Int.tdiv a2 a0_2)))) t108) (wrap64 (t108 - (Int.tmod (wrap64 (a0_0 + (wrap64 (Int.tdiv a2 a0_2)))) t108)))))))))
set_option maxHeartbeats 8000000 in
set_option maxRecDepth 100000 in
theorem impl_Signal_place.calls (a0_0 : Int) (a0_1 : Bool) (a0_2 : Int) (a1 : Int) (a2 : Int) (r : Int) (w : World) (h : impl_Signal_place.f a0_0 a0_1 a0_2 a1 a2 = some r) :
  Calls Tryz.prog 54 #[.agg #[.int .i64 a0_0, .bool a0_1, .int .i64 a0_2], .int .i64 a1, .int .i64 a2] w fun e w' => e = .returned (.int .i64 r) ∧ Below w.heap.size w w' := by
 have hu25 := Tryz.underlying25
 have HB := Aside0.mk (Below.refl w.heap.size w)
 unfold impl_Signal_place.f at h
 have H := h
 clear h
 by_cases c4 : a1 = 1
 ·rw [if_pos c4] at H
  have c4b0 : (a1 == 1) = true := beq_iff_eq.mpr c4
  have c4b1 : (a1 != 1) = false := bne_eq_false_iff_eq.mpr c4
  clear c4
  obtain rfl := Option.some.inj H
  go_enter Tryz.func54, Tryz.ntmps54
  go_wp2_with (first | ((with_reducible refine gate_dst (N := 3) rfl ?_); refine bx 3 25 #[.int .i64 a0_0, .bool a0_1, .int .i64 a0_2] ?_; intro gb107 hg w5 hbox hb; have BK107 := hbox; have GW107 := gs hg; have GE107 := gs hg; replace HB := bs hb; clear hb hbox hg))
  go_ret
  exact ⟨rs, bw⟩
 ·rw [if_neg c4] at H
  have c4b0 : (a1 == 1) = false := beq_eq_false_iff_ne.mpr c4
  have c4b1 : (a1 != 1) = true := bne_iff_ne.mpr c4
  replace H := Option.bind_eq_some_iff.mp H
  obtain ⟨t108, A60, H⟩ := H
  (try dsimp only at H)
  have A6 := Aside0.mk A60
  clear A60
  by_cases c7 : a0_1 = true
  ·subst c7
   rw [if_pos rfl] at H
   by_cases c8 : a0_2 = 0
   ·rw [if_pos c8] at H
    exact absurd H (by simp)
   ·rw [if_neg c8] at H
    have c8b0 : (a0_2 == 0) = false := beq_eq_false_iff_ne.mpr c8
    have c8b1 : (a0_2 != 0) = true := bne_iff_ne.mpr c8
    by_cases c9 : t108 = 0
    ·rw [if_pos c9] at H
     exact absurd H (by simp)
    ·rw [if_neg c9] at H
     have c9b0 : (t108 == 0) = false := beq_eq_false_iff_ne.mpr c9
     have c9b1 : (t108 != 0) = true := bne_iff_ne.mpr c9
     obtain ⟨ji10, hji10⟩ : ∃ j_ : Int, (mn (Int.tmod (wrap64 ((wrap64 (t108 - a0_0)) + (wrap64 (Int.tdiv a2 a0_2)))) t108) (wrap64 (t108 - (Int.tmod (wrap64 ((wrap64 (t108 - a0_0)) + (wrap64 (Int.tdiv a2 a0_2)))) t108)))) = j_ := ⟨_, rfl⟩
     replace H : (some ji10) = some r := by first | (rw [hji10] at H; exact H) | (simp only [hji10] at H ⊢; exact H)
     (try rw [hji10] at A6)
     have hji10_ : (if (wrap64 (t108 - (Int.tmod (wrap64 ((wrap64 (t108 - a0_0)) + (wrap64 (Int.tdiv a2 a0_2)))) t108))) < (Int.tmod (wrap64 ((wrap64 (t108 - a0_0)) + (wrap64 (Int.tdiv a2 a0_2)))) t108) then (wrap64 (t108 - (Int.tmod (wrap64 ((wrap64 (t108 - a0_0)) + (wrap64 (Int.tdiv a2 a0_2)))) t108))) else (Int.tmod (wrap64 ((wrap64 (t108 - a0_0)) + (wrap64 (Int.tdiv a2 a0_2)))) t108)) = ji10 := hji10
     obtain rfl := Option.some.inj H
     go_enter Tryz.func54, Tryz.ntmps54
     go_wp2_with (first | ((with_reducible refine gate_dst (N := 3) rfl ?_); refine bx 3 25 #[.int .i64 a0_0, .bool true, .int .i64 a0_2] ?_; intro gb107 hg w11 hbox hb; have BK107 := hbox; have GW107 := gs hg; have GE107 := gs hg; replace HB := bs hb; clear hb hbox hg) | ((with_reducible refine gate_callee (f := 67) rfl ?_); refine gl (some 12) Tryz.func67 #[.int .i64 a1] ?_; (with_reducible refine (impl_around.calls a1 t108 _ A6.out).mono ?_); rintro e w12 ⟨rfl, hb⟩; refine ⟨_, rfl, ?_⟩; replace BK107 := nk BK107 hb; replace HB := bs hb; (try clear hb); have hcz13_0 := bc BK107 0 (.int .i64 a0_0); have hcz13_1 := bc BK107 1 (.bool true); have hcz13_2 := bc BK107 2 (.int .i64 a0_2); have hfz13_0 := blk_frozen BK107.out 0; have hfz13_1 := blk_frozen BK107.out 1; have hfz13_2 := blk_frozen BK107.out 2))
     go_ret
     exact ⟨by first | rfl | (simp [errW_none, errW_some] <;> rfl) | (simp only [← hji10]; first | rfl | (simp [errW_none, errW_some] <;> rfl)) | (simp [*, errW_none, errW_some] <;> rfl), bw⟩
  ·replace c7 := Bool.eq_false_iff.mpr c7
   subst c7
   rw [if_neg (show ¬ (false = true) by decide)] at H
   by_cases c14 : a0_2 = 0
   ·rw [if_pos c14] at H
    exact absurd H (by simp)
   ·rw [if_neg c14] at H
    have c14b0 : (a0_2 == 0) = false := beq_eq_false_iff_ne.mpr c14
    have c14b1 : (a0_2 != 0) = true := bne_iff_ne.mpr c14
    by_cases c15 : t108 = 0
    ·rw [if_pos c15] at H
     exact absurd H (by simp)
    ·rw [if_neg c15] at H
     have c15b0 : (t108 == 0) = false := beq_eq_false_iff_ne.mpr c15
     have c15b1 : (t108 != 0) = true := bne_iff_ne.mpr c15
     obtain ⟨ji16, hji16⟩ : ∃ j_ : Int, (mn (Int.tmod (wrap64 (a0_0 + (wrap64 (Int.tdiv a2 a0_2)))) t108) (wrap64 (t108 - (Int.tmod (wrap64 (a0_0 + (wrap64 (Int.tdiv a2 a0_2)))) t108)))) = j_ := ⟨_, rfl⟩
     replace H : (some ji16) = some r := by first | (rw [hji16] at H; exact H) | (simp only [hji16] at H ⊢; exact H)
     (try rw [hji16] at A6)
     have hji16_ : (if (wrap64 (t108 - (Int.tmod (wrap64 (a0_0 + (wrap64 (Int.tdiv a2 a0_2)))) t108))) < (Int.tmod (wrap64 (a0_0 + (wrap64 (Int.tdiv a2 a0_2)))) t108) then (wrap64 (t108 - (Int.tmod (wrap64 (a0_0 + (wrap64 (Int.tdiv a2 a0_2)))) t108))) else (Int.tmod (wrap64 (a0_0 + (wrap64 (Int.tdiv a2 a0_2)))) t108)) = ji16 := hji16
     obtain rfl := Option.some.inj H
     go_enter Tryz.func54, Tryz.ntmps54
     go_wp2_with (first | ((with_reducible refine gate_dst (N := 3) rfl ?_); refine bx 3 25 #[.int .i64 a0_0, .bool false, .int .i64 a0_2] ?_; intro gb107 hg w17 hbox hb; have BK107 := hbox; have GW107 := gs hg; have GE107 := gs hg; replace HB := bs hb; clear hb hbox hg) | ((with_reducible refine gate_callee (f := 67) rfl ?_); refine gl (some 12) Tryz.func67 #[.int .i64 a1] ?_; (with_reducible refine (impl_around.calls a1 t108 _ A6.out).mono ?_); rintro e w18 ⟨rfl, hb⟩; refine ⟨_, rfl, ?_⟩; replace BK107 := nk BK107 hb; replace HB := bs hb; (try clear hb); have hcz19_0 := bc BK107 0 (.int .i64 a0_0); have hcz19_1 := bc BK107 1 (.bool false); have hcz19_2 := bc BK107 2 (.int .i64 a0_2); have hfz19_0 := blk_frozen BK107.out 0; have hfz19_1 := blk_frozen BK107.out 1; have hfz19_2 := blk_frozen BK107.out 2))
     go_ret
     exact ⟨by first | rfl | (simp [errW_none, errW_some] <;> rfl) | (simp only [← hji16]; first | rfl | (simp [errW_none, errW_some] <;> rfl)) | (simp [*, errW_none, errW_some] <;> rfl), bw⟩

/-! ### bits_Mul32: function 94 -/
def bits_Mul32.f (a0 : Int) (a1 : Int) : Option (Int × Int) := some (((IntKind.u64.wrap ((IntKind.u64.wrap (a0)) * (IntKind.u64.wrap (a1)))) / 4294967296) % 4294967296, (IntKind.u64.wrap ((IntKind.u64.wrap (a0)) * (IntKind.u64.wrap (a1)))) % 4294967296)
set_option maxHeartbeats 8000000 in
set_option maxRecDepth 100000 in
theorem bits_Mul32.calls (a0 : Int) (a1 : Int) (r1 : Int) (r2 : Int) (w : World) (h : bits_Mul32.f a0 a1 = some (r1, r2)) :
  Calls Tryz.prog 94 #[.int .u32 a0, .int .u32 a1] w fun e w' => e = .returned (.tuple #[.int .u32 r1, .int .u32 r2]) ∧ Drawn0 w w' := by
 unfold bits_Mul32.f at h
 have H := h
 clear h
 simp only [Option.some.injEq, Prod.mk.injEq] at H
 obtain ⟨rfl, rfl⟩ := H
 go_enter Tryz.func94, Tryz.ntmps94
 go_wp2
 go_ret2
 exact ⟨rs, by repeat (first | exact Drawn0.refl _ | apply Drawn0.step)⟩

/-! ### bits_Mul64: function 95 -/
def bits_Mul64.f (a0 : Int) (a1 : Int) : Option (Int × Int) := some (IntKind.u64.wrap ((IntKind.u64.wrap ((IntKind.u64.wrap ((a0 / 4294967296) * (a1 / 4294967296))) + ((IntKind.u64.wrap ((IntKind.u64.wrap ((a0 / 4294967296) * (Go.bits .and .u64 a1 4294967295))) + ((IntKind.u64.wrap ((Go.bits .and .u64 a0 4294967295) * (Go.bits .and .u64 a1 4294967295))) / 4294967296))) / 4294967296))) + ((IntKind.u64.wrap ((Go.bits .and .u64 (IntKind.u64.wrap ((IntKind.u64.wrap ((a0 / 4294967296) * (Go.bits .and .u64 a1 4294967295))) + ((IntKind.u64.wrap ((Go.bits .and .u64 a0 4294967295) * (Go.bits .and .u64 a1 4294967295))) / 4294967296))) 4294967295) + (IntKind.u64.wrap ((Go.bits .and .u64 a0 4294967295) * (a1 / 4294967296))))) / 4294967296)), IntKind.u64.wrap (a0 * a1))
set_option maxHeartbeats 8000000 in
set_option maxRecDepth 100000 in
theorem bits_Mul64.calls (a0 : Int) (a1 : Int) (r1 : Int) (r2 : Int) (w : World) (h : bits_Mul64.f a0 a1 = some (r1, r2)) :
  Calls Tryz.prog 95 #[.int .u64 a0, .int .u64 a1] w fun e w' => e = .returned (.tuple #[.int .u64 r1, .int .u64 r2]) ∧ Drawn0 w w' := by
 unfold bits_Mul64.f at h
 have H := h
 clear h
 simp only [Option.some.injEq, Prod.mk.injEq] at H
 obtain ⟨rfl, rfl⟩ := H
 go_enter Tryz.func95, Tryz.ntmps95
 go_wp2
 go_ret2
 exact ⟨rs, by repeat (first | exact Drawn0.refl _ | apply Drawn0.step)⟩

/-! ### bits_Mul: function 82 -/
def bits_Mul.f (a0 : Int) (a1 : Int) : Option (Int × Int) := (bits_Mul64.f a0 a1).bind fun bt109 => (some (bt109.1, bt109.2))
set_option maxHeartbeats 8000000 in
set_option maxRecDepth 100000 in
theorem bits_Mul.calls (a0 : Int) (a1 : Int) (r1 : Int) (r2 : Int) (w : World) (h : bits_Mul.f a0 a1 = some (r1, r2)) :
  Calls Tryz.prog 82 #[.int .u64 a0, .int .u64 a1] w fun e w' => e = .returned (.tuple #[.int .u64 r1, .int .u64 r2]) ∧ Drawn0 w w' := by
 unfold bits_Mul.f at h
 have H := h
 clear h
 replace H := Option.bind_eq_some_iff.mp H
 obtain ⟨⟨t109, t110⟩, A30, H⟩ := H
 (try dsimp only at H)
 have A3 := Aside0.mk A30
 clear A30
 simp only [Option.some.injEq, Prod.mk.injEq] at H
 obtain ⟨rfl, rfl⟩ := H
 go_enter Tryz.func82, Tryz.ntmps82
 go_wp2_with (first | ((with_reducible refine gate_callee (f := 95) rfl ?_); refine gl (some 25) Tryz.func95 #[.int .u64 a0, .int .u64 a1] ?_; (with_reducible refine (bits_Mul64.calls a0 a1 t109 t110 _ A3.out).mono ?_); rintro e w' ⟨rfl, ⟨nd, rfl⟩⟩; refine ⟨_, rfl, ?_⟩))
 go_ret2
 exact ⟨rs, by repeat (first | exact Drawn0.refl _ | apply Drawn0.step)⟩

/-! ### slices_Repeat_int_int: function 66 -/
theorem slices_Repeat_int_int_set {B t : Nat} (v : Value) : ∀ (m n r : Nat) (W : World), W.heap[B]? = some (.cells (List.replicate n v ++ List.replicate (m + r) (Value.int .i64 0)).toArray t (0, 0)) → (W.setCells B n (List.replicate m v)).heap[B]? = some (.cells (List.replicate (n + m) v ++ List.replicate r (Value.int .i64 0)).toArray t (0, 0))
  | 0, n, r, W, h => by simpa [World.setCells] using h
  | m + 1, n, r, W, h => by
    rw [List.replicate_succ, World.setCells]
    have h1 := blk_set h n v
    have e : (List.replicate n v ++ List.replicate (m + 1 + r) (Value.int .i64 0)).toArray.setIfInBounds n v = (List.replicate (n + 1) v ++ List.replicate (m + r) (Value.int .i64 0)).toArray := by
      rw [show m + 1 + r = (m + r) + 1 by omega, List.replicate_succ (n := m + r)]
      simp [List.replicate_succ', List.set_append]
    rw [e] at h1
    have := slices_Repeat_int_int_set v m (n + 1) r _ h1
    rwa [show n + (m + 1) = n + 1 + m by omega]
theorem slices_Repeat_int_int_below {b0 : Nat} {w0 : World} {B : Nat} (hB : b0 ≤ B) : ∀ (vs : List Value) (o : Nat) (W : World), Below b0 w0 W → Below b0 w0 (W.setCells B o vs)
  | [], _, _, h => h
  | v :: r, o, W, h => by
    rw [World.setCells]
    exact slices_Repeat_int_int_below hB r (o + 1) _ (h.setCell hB v)
theorem slices_Repeat_int_int_run {P : Program} {t e : TypeId} (hu : P.underlying t = some (.slice e)) (hs : (P.info? e).map (·.size) = some 1) (v : Int) (m n r d cd ls cs : Nat) (ty : TypeId) (ad : Addr) (W : World) (B e0 : Nat)
    (h : W.heap[B]? = some (.cells (List.replicate n (Value.int .i64 v) ++ List.replicate (m + r) (Value.int .i64 0)).toArray e0 (0, 0))) (hd : d = m + r) (hm : m = Nat.min ls d) (hsrc : ∀ j, j < m → W.cell? (ad.add j) = some (.int .i64 v)) :
    (Builtin.copy_ #[t, t] ty #[.slice (some ⟨B, n, none⟩) d cd, .slice (some ad) ls cs]).run P W = .ok (.int .i64 m) (W.setCells B n (List.replicate m (.int .i64 v))) := by
  have := run_copy_cells (P := P) W t t ty e B n d cd ad ls cs (List.replicate m (.int .i64 v)) hu hs (by simpa using hm)
    (fun j u hj => by
      have hj' := List.getElem?_eq_some_iff.1 hj
      obtain ⟨h1, h2⟩ := hj'
      simp at h1 h2
      rw [hsrc j h1, h2])
    (fun j hj => by
      simp at hj
      rw [blk_cell h]
      simp
      omega)
    (fun j hj => blk_frozen h _) (fun u hu => by rw [List.eq_of_mem_replicate hu]; rfl)
  simpa [goInt] using this
def slices_Repeat_int_int.f (l0 : List Int) (a1 : Int) : Option (List Int) := (bits_Mul.f (l0.length : Int) a1).bind fun q => if l0.length = 1 ∧ 1 ≤ a1 ∧ a1 < 1099511627776 ∧ q = (0, a1) then some (List.replicate a1.toNat (rd l0 0)) else none
theorem slices_Repeat_int_int_own (W : World) (base B c e : Nat) (v : Int) (hB : base ≤ B) (hc : c ≤ 9223372036854775807) (h : W.heap[B]? = some (.cells (List.replicate c (Value.int .i64 v)).toArray e (0, 0))) :
    Kd.R (Kd.int .i64) e W base (fun _ => True) (.slice (some ⟨B, 0, none⟩) c c) (List.replicate c v) := by
  refine ⟨fun _ _ => trivial, List.replicate c (.int .i64 v), ⟨by simp [Kd.int, Kd.scalar], .inr ⟨B, c, _, by simp, hB, h, ?_⟩⟩, by simp [Kd.int, Kd.scalar], ?_⟩
  · simp [maxLen, Kd.int, Kd.scalar]
    omega
  · intro j p hj
    have hj' := List.getElem?_eq_some_iff.1 hj
    obtain ⟨h1, h2⟩ := hj'
    simp at h1 h2
    simp [Kd.int, Kd.scalar, ← h2]
    rw [show min 1 (c - j) = 0 + 1 by omega]
    rfl
set_option maxHeartbeats 8000000 in
set_option maxRecDepth 100000 in
theorem slices_Repeat_int_int.calls (A0 : Option Addr) (c0 : Nat) (l0 : List Int) (a1 : Int) (r : List Int) (w : World) (hr0 : Kd.C (Kd.int .i64) w A0 l0.length l0) (hc0 : l0.length ≤ c0) (h : slices_Repeat_int_int.f l0 a1 = some r) :
  Calls Tryz.prog 66 #[.slice A0 l0.length c0, .int .i64 a1] w fun e w' => ∃ v0_ : Value, e = .returned (v0_) ∧ Kd.R (Kd.int .i64) 3 w' w.heap.size (fun _ => True) v0_ r ∧ Below w.heap.size w w' := by
 have HR0 := Aside0.mk hr0
 clear hr0
 have HB := Aside0.mk (Below.refl w.heap.size w)
 replace h := Option.bind_eq_some_iff.mp h
 obtain ⟨q, Aq0, h⟩ := h
 by_cases hcond : l0.length = 1 ∧ 1 ≤ a1 ∧ a1 < 1099511627776 ∧ q = (0, a1)
 ·rw [if_pos hcond] at h
  obtain ⟨hl, hlo, hhi, rfl⟩ := hcond
  obtain rfl := Option.some.inj h
  clear h
  rw [hl] at Aq0
  have Aq := Aside0.mk (show bits_Mul.f 1 a1 = some (0, a1) from Aq0)
  clear Aq0
  obtain ⟨ad, e1, hx0⟩ := Kd.at_int HR0.out 0 (by omega) (by omega)
  cases e1
  obtain ⟨v, hv⟩ : ∃ v, v = rd l0 0 := ⟨_, rfl⟩
  rw [← hv] at hx0 ⊢
  rw [hl] at hc0 ⊢
  obtain ⟨c, rfl⟩ : ∃ c : Nat, a1 = (c : Int) := ⟨a1.toNat, by omega⟩
  have mixed : Tryz.prog.follows Departure.mixedOrders = true := by kernel_rfl
  have hmk := print_make (P := Tryz.prog) 23 3 .i64 8 Tryz.underlying23 (by kernel_rfl) (by omega) c (by omega)
  have hz : (madeCells #[Value.int .i64 0] c) = (List.replicate 0 (Value.int .i64 v) ++ List.replicate (1 + (c - 1)) (Value.int .i64 0)).toArray := by
   apply Array.ext
   ·simp [madeCells]
    omega
   ·intro i h1 h2
    simp [madeCells, Nat.mod_one]
  have hlt := World.block_lt_of_cell? w _ hx0
  have HZ := Aside0.mk hz
  have HX := Aside0.mk hx0
  have HM := Aside0.mk hmk
  have HV := Aside0.mk hv
  have p1 : decide ((c : Int) < 0) = false := decide_eq_false (by omega)
  have p2 : decide ((9223372036854775807 : Int) < (c : Int)) = false := decide_eq_false (by omega)
  have p3 : IntKind.u64.wrap (c : Int) = c := by have e64 : IntKind.u64.bits = 64 := rfl; simp [IntKind.wrap, e64, IntKind.signed]; omega
  have HC := Aside0.mk hc0
  have HLO := Aside0.mk hlo
  have HHI := Aside0.mk hhi
  have HL := Aside0.mk hl
  clear hz hx0 hmk hv hlt hc0 hlo hhi hl
  go_enter Tryz.func66, Tryz.ntmps66
  have p4 : wrap64 (c : Int) = c := by have := HLO.out; have := HHI.out; unfold wrap64; omega
  have hblk : ∀ n1, ((w.drewN n1).alloc (.cells (madeCells #[Value.int .i64 0] c) 3)).heap[w.heap.size]? = some (.cells (List.replicate 0 (Value.int .i64 v) ++ List.replicate (1 + (c - 1)) (Value.int .i64 0)).toArray 3 (0, 0)) := fun n1 => (blk_new (w.drewN n1) _).trans (by rw [HZ.out])
  have hcp1 := fun n1 => slices_Repeat_int_int_run (P := Tryz.prog) Tryz.underlying23 (by kernel_rfl) v 1 0 (c - 1) c c 1 c0 3 ad ((w.drewN n1).alloc (.cells (madeCells #[Value.int .i64 0] c) 3)) w.heap.size 3 (hblk n1) (by have := HLO.out; omega) (by have := HLO.out; simp only [Nat.min_def]; split <;> omega) (fun j hj => by obtain rfl : j = 0 := (by omega); exact ((below_alloc (pw_below_drewN HB.out _) _).cell (World.block_lt_of_cell? w _ HX.out)).trans HX.out)
  have HB1 := fun n1 => Aside0.mk (slices_Repeat_int_int_below (b0 := w.heap.size) (w0 := w) (Nat.le_refl _) (List.replicate 1 (Value.int .i64 v)) 0 _ (below_alloc (pw_below_drewN HB.out n1) (.cells (madeCells #[Value.int .i64 0] c) 3)))
  have HS1 := fun n1 => Aside0.mk (slices_Repeat_int_int_set (Value.int .i64 v) 1 0 (c - 1) _ (hblk n1))
  have HCP := Aside0.mk hcp1
  have HBK := Aside0.mk hblk
  clear hcp1 hblk
  go_wp2_with (first | (go_at_call 82; (with_reducible refine (bits_Mul.calls 1 c 0 c _ Aq.out).mono ?_); rintro e w' ⟨rfl, ⟨n1, rfl⟩⟩) | simp only [p4, HM.out] | simp only [HCP.out])
  go_loopg [8] c (fun kq v8 w' => ∃ n : Nat, v8 = .int .i64 (n : Int) ∧ Aside0 (1 ≤ n ∧ n ≤ c) ∧ Aside0 (c - n ≤ kq) ∧ Aside0 (w'.heap[w.heap.size]? = some (.cells (List.replicate n (Value.int .i64 v) ++ List.replicate (c - n) (Value.int .i64 0)).toArray 3 (0, 0))) ∧ Aside0 (Below w.heap.size w w'))
  case atStart => exact ⟨1, rfl, ⟨by have := HLO.out; omega⟩, ⟨by omega⟩, ⟨(HS1 _).out⟩, HB1 _⟩
  case round =>
   clear HB HB1 HS1 HCP HBK
   obtain ⟨n, rfl, HN, HK1, HBK, HB⟩ := hrel
   by_cases c4 : (n : Int) < (c : Int)
   ·have c4b0 : decide ((n : Int) < (c : Int)) = true := decide_eq_true c4
    cases gk with
    | zero => exact absurd HK1.out (by omega)
    | succ k1 =>
     obtain ⟨m, hm⟩ : ∃ m, m = Nat.min n (c - n) := ⟨_, rfl⟩
     have hm1 : 1 ≤ m ∧ n + m ≤ c := by have := HN.out; simp only [hm, Nat.min_def]; split <;> omega
     have hcp2 := fun n1 => slices_Repeat_int_int_run (P := Tryz.prog) Tryz.underlying23 (by kernel_rfl) v m n (c - n - m) (c - n) (c - n) n c 3 ⟨w.heap.size, 0, none⟩ (World.drewN ‹World› n1) w.heap.size 3 (by have := HBK.out; rw [show m + (c - n - m) = c - n by omega]; exact this) (by omega) hm (fun j hj => by rw [add_plain]; have hjn : j < n := (by have : m ≤ n := hm ▸ Nat.min_le_left _ _; omega); refine (blk_cell (w := World.drewN ‹World› n1) HBK.out j).trans ?_; simp [List.getElem?_append, hjn])
     have q1 : ((n : Int)).toNat = n := by omega
     have q2 : (n : Int) ≤ (c : Int) := by omega
     have q3 : ¬ (c = n) := by omega
     have q4 : (0 : Int) ≤ (n : Int) := by omega
     have q5 : IntKind.i64.wrap ((n : Int) + (m : Int)) = ((n + m : Nat) : Int) := by have := HHI.out; have e64 : IntKind.i64.bits = 64 := rfl; simp [IntKind.wrap, e64, IntKind.signed]; omega
     have HB2 := fun n1 => Aside0.mk (slices_Repeat_int_int_below (b0 := w.heap.size) (w0 := w) (Nat.le_refl _) (List.replicate m (Value.int .i64 v)) n _ (pw_below_drewN HB.out n1))
     have HS2 := fun n1 => Aside0.mk (slices_Repeat_int_int_set (B := w.heap.size) (t := 3) (Value.int .i64 v) m n (c - n - m) (World.drewN ‹World› n1) (by have := HBK.out; rw [show m + (c - n - m) = c - n by omega]; exact this))
     have HCP2 := Aside0.mk hcp2
     have HM1 := Aside0.mk hm1
     clear hcp2 hm hm1 c4
     go_wp2
     go_region_law_o (refine step_copy_runI rfl _ _ 23 23 rfl _ _ (by simp [Act.eval, Act.put]) (by simp [Act.eval, Act.put]) (HCP2.out _) ?_)
     go_wp2
     go_roundg k1
     case measure => have := HK1.out; have := HM1.out; omega
     case rel => exact ⟨n + m, (by first | rfl | exact congrArg _ q5), ⟨by have := HN.out; have := HM1.out; omega⟩, ⟨by have := HK1.out; have := HM1.out; omega⟩, ⟨by have := (HS2 1).out; rw [show c - n - m = c - (n + m) by omega] at this; exact this⟩, HB2 1⟩
   ·have c4b0 : decide ((n : Int) < (c : Int)) = false := decide_eq_false c4
    obtain rfl : n = c := by have := HN.out; omega
    have HR := fun n1 => Aside0.mk (slices_Repeat_int_int_own (World.drewN ‹World› n1) w.heap.size w.heap.size n 3 v (Nat.le_refl _) (by have := HHI.out; omega) (by have := HBK.out; simpa using this))
    clear c4
    go_wp2
    go_ret
    exact ⟨_, rfl, (HR 0).out, HB.out⟩
 ·rw [if_neg hcond] at h
  exact absurd h (by simp)

/-! ### impl_heard: function 32 -/
mutual
def impl_heard.l0 : Nat → Int → List Int → List (S25) → Int → Int → Option (List Int)
  | 0, _, _, _, _, _ => none
  | k + 1, x0, x5, x14, x15, x16 => if x16 < x15 then (if 0 ≤ x16 then (if x16 < (x14.length : Int) then ((impl_around.f x0).bind fun t119 => (impl_heard.l1 k x0 x5 x14 x15 x16 t119 0 ((rd_T25 x14 x16).f0) ((rd_T25 x14 x16).f1) ((rd_T25 x14 x16).f2))) else (none)) else (none)) else (some x5)
def impl_heard.l1 : Nat → Int → List Int → List (S25) → Int → Int → Int → Int → Int → Bool → Int → Option (List Int)
  | 0, _, _, _, _, _, _, _, _, _, _ => none
  | k + 1, x0, x5, x14, x15, x16, x21, x22, x119000, x119001, x119002 => if x22 < x21 then ((impl_Signal_place.f x119000 x119001 x119002 x0 (wrap64 (x22 * x119002))).bind fun t120 => (if 0 ≤ t120 then (if t120 < (x5.length : Int) then (if (rd x5 t120) < 0 then (impl_heard.l1 k x0 (x5.set (t120 : Int).toNat (wrap64 (x22 * x119002))) x14 x15 x16 x21 (wrap64 (x22 + 1)) x119000 x119001 x119002) else (if (wrap64 (x22 * x119002)) < (rd x5 t120) then (impl_heard.l1 k x0 (x5.set (t120 : Int).toNat (wrap64 (x22 * x119002))) x14 x15 x16 x21 (wrap64 (x22 + 1)) x119000 x119001 x119002) else (impl_heard.l1 k x0 x5 x14 x15 x16 x21 (wrap64 (x22 + 1)) x119000 x119001 x119002))) else (none)) else (none))) else (impl_heard.l0 k x0 x5 x14 x15 (wrap64 (x16 + 1)))
end
def impl_heard.f (k : Nat) (a0 : Int) (l1 : List (S25)) : Option (List Int) := (slices_Repeat_int_int.f (([(-1)] : List Int)) a0).bind fun t114 => (impl_heard.l0 k a0 t114 l1 (l1.length : Int) 0)
theorem impl_heard.mono_l : ∀ k, (∀ y0 y1 y2 y3 y4, LeO (impl_heard.l0 k y0 y1 y2 y3 y4) (impl_heard.l0 (k + 1) y0 y1 y2 y3 y4)) ∧ (∀ y0 y1 y2 y3 y4 y5 y6 y7 y8 y9, LeO (impl_heard.l1 k y0 y1 y2 y3 y4 y5 y6 y7 y8 y9) (impl_heard.l1 (k + 1) y0 y1 y2 y3 y4 y5 y6 y7 y8 y9))
  | 0 => ⟨fun _ _ _ _ _ r h => by simp [impl_heard.l0] at h, fun _ _ _ _ _ _ _ _ _ _ r h => by simp [impl_heard.l1] at h⟩
  | k + 1 => by
    obtain ⟨ih0, ih1⟩ := impl_heard.mono_l k
    refine ⟨?_, ?_⟩
    · intro y0 y1 y2 y3 y4
      unfold impl_heard.l0
      repeat' first
      | (with_reducible exact ih0 _ _ _ _ _)
      | (with_reducible exact ih1 _ _ _ _ _ _ _ _ _ _)
      | (with_reducible exact LeO.refl _)
      | (with_reducible exact LeO.none _)
      | (with_reducible refine LeO.ite ?_ ?_)
      | (with_reducible refine LeO.bind ?_ (fun _ => ?_))
      | exact ih0 _ _ _ _ _
      | exact ih1 _ _ _ _ _ _ _ _ _ _
      | exact LeO.none _
      | refine LeO.ite ?_ ?_
      | refine LeO.bind ?_ (fun _ => ?_)
    · intro y0 y1 y2 y3 y4 y5 y6 y7 y8 y9
      unfold impl_heard.l1
      repeat' first
      | (with_reducible exact ih0 _ _ _ _ _)
      | (with_reducible exact ih1 _ _ _ _ _ _ _ _ _ _)
      | (with_reducible exact LeO.refl _)
      | (with_reducible exact LeO.none _)
      | (with_reducible refine LeO.ite ?_ ?_)
      | (with_reducible refine LeO.bind ?_ (fun _ => ?_))
      | exact ih0 _ _ _ _ _
      | exact ih1 _ _ _ _ _ _ _ _ _ _
      | exact LeO.none _
      | refine LeO.ite ?_ ?_
      | refine LeO.bind ?_ (fun _ => ?_)
theorem impl_heard.mono : ∀ a0 a1 k, LeO (impl_heard.f k a0 a1) (impl_heard.f (k + 1) a0 a1) := by
  intro a0 a1 k
  obtain ⟨ih0, ih1⟩ := impl_heard.mono_l k
  unfold impl_heard.f
  repeat' first
      | (with_reducible exact ih0 _ _ _ _ _)
      | (with_reducible exact ih1 _ _ _ _ _ _ _ _ _ _)
      | (with_reducible exact LeO.refl _)
      | (with_reducible exact LeO.none _)
      | (with_reducible refine LeO.ite ?_ ?_)
      | (with_reducible refine LeO.bind ?_ (fun _ => ?_))
      | exact ih0 _ _ _ _ _
      | exact ih1 _ _ _ _ _ _ _ _ _ _
      | exact LeO.none _
      | refine LeO.ite ?_ ?_
      | refine LeO.bind ?_ (fun _ => ?_)
set_option maxHeartbeats 8000000 in
set_option maxRecDepth 100000 in
theorem impl_heard.calls (k : Nat) (a0 : Int) (A1 : Option Addr) (c1 : Nat) (l1 : List (S25)) (r : List Int) (w : World) (hr1 : Kd.C k25 w A1 l1.length l1) (hc1 : l1.length ≤ c1) (h : impl_heard.f k a0 l1 = some r) :
  Calls Tryz.prog 32 #[.int .i64 a0, .slice A1 l1.length c1] w fun e w' => ∃ v0_ : Value, e = .returned (v0_) ∧ Kd.R (Kd.int .i64) 3 w' w.heap.size (fun _ => True) v0_ r ∧ Below w.heap.size w w' := by
 have hu25 := Tryz.underlying25
 have HR1 := Aside0.mk hr1
 have HC1 := Aside0.mk hc1
 clear hr1 hc1
 have HB := Aside0.mk (Below.refl w.heap.size w)
 unfold impl_heard.f at h
 have H := h
 clear h
 obtain ⟨y111, hy111⟩ : ∃ y_ : List Int, y_ = (([(-1)] : List Int)) := ⟨_, rfl⟩
 replace H : ((slices_Repeat_int_int.f y111 a0).bind fun t114 => (impl_heard.l0 k a0 t114 l1 (l1.length : Int) 0)) = some r := by first | (rw [hy111]; with_reducible exact H) | (have H2_ := (Option.bind_some _ _).symm.trans H; rw [hy111]; with_reducible exact H2_) | (have H2_ := (Option.bind_some _ _).symm.trans H; with_reducible exact H2_) | with_reducible exact H | (rw [hy111]; exact H) | exact H
 have Ny111 := Aside0.mk hy111
 clear hy111
 replace H := Option.bind_eq_some_iff.mp H
 obtain ⟨t114, A30, H⟩ := H
 (try dsimp only at H)
 have A3 := Aside0.mk A30
 clear A30
 have H' := Aside0.mk H
 clear H
 go_enter Tryz.func32, Tryz.ntmps32
 go_wp2_with (first | ((with_reducible refine gate_dst (N := 11) rfl ?_); refine Kd.R_lit (Kd.int .i64) _ 3 ?hg (N := 11) ?hd (xs := ([(-1)] : List Int)) (inner := [.int .i64 (-1)]) (ok := fun _ => True) (okp := fun _ => True) ?hr ?hp (fun _ hk => hk) trivial (Below.refl _ _) (Nat.le_refl _) (by simp) ?_; (case hd => rfl); (case hg => rfl); (case hr => first | (go_simp; done) | (go_simp; rfl)); (case hp => exact (Reps.one (show Kd.M (Kd.int .i64) _ _ _ (-1) [.int .i64 (-1)] from rfl) (Reps.none _ _))); intro v112 w4 ho5 hb hg_ hnew_; clear hg_ hnew_; (first | rw [← Ny111.out] at ho5 | (simp only [Int.reduceToNat] at ho5; rw [← Ny111.out] at ho5)); have HO113 := Aside0.mk (Kd.R_lower ho5 (below_size bw)); replace HB := bs hb; clear hb ho5; obtain ⟨Ao6, co6, eo6⟩ := Kd.R_slice HO113.out; subst eo6) | ((with_reducible refine gate_callee (f := 66) rfl ?_); refine gl (some 13) Tryz.func66 #[.slice Ao6 y111.length co6, .int .i64 a0] ?_; (with_reducible refine (slices_Repeat_int_int.calls _ _ y111 a0 t114 _ ?side1 ?side2 A3.out).mono ?_); (case side1 => repeat (first | exact (Kd.R_reads' HO113.out).2.2 | (with_reducible refine Kd.C_alloc ?_ _) | (with_reducible refine Kd.C_drewN ?_ _) | (with_reducible refine Kd.C_drew ?_))); (case side2 => exact (Kd.R_reads' HO113.out).2.1); rintro e w7 ⟨v115, rfl, ho0, hb⟩; refine ⟨_, rfl, ?_⟩; have HO116 := Aside0.mk (Kd.R_lower (Kd.R_new' ho0 (Kd.R_lt (pr HO113))) (below_size bw)); replace HO113 := Aside0.mk (Kd.R_elder' (pr HO113) (Kd.R_base ho0) hb); replace HB := bs hb; (try clear hb); (try clear ho0)))
 go_loopg [16] k (fun kq v16 w' => ∃ (x5_1 : List Int) (x16_1 : Int), v16 = .int .i64 x16_1 ∧ Aside0 (impl_heard.l0 kq a0 x5_1 l1 (l1.length : Int) x16_1 = some r) ∧ Aside0 (kq ≤ k) ∧ Aside0 (Kd.R (Kd.int .i64) 3 w' w.heap.size (fun _ => True) v115 x5_1) ∧ Aside0 (Below w.heap.size w w'))
 case atStart => exact ⟨(t114), (0), (rs), H', ⟨Nat.le_refl _⟩, ⟨by (with_reducible repeat (first | apply Kd.R_alloc | apply Kd.R_drewN | apply Kd.R_drew)); exact Kd.R_mono HO116.out (fun _ hk => trivial)⟩, ⟨bw⟩⟩
 case round =>
  clear H'
  try clear c1
  try clear p2
  try clear c3
  try clear c6
  obtain ⟨x5_1, x16_1, rfl, HA, HK1, HO_5, HB⟩ := hrel
  cases gk with
  | zero => exact absurd HA.out (by simp [impl_heard.l0])
  | succ k1 =>
   have H := HA.out
   clear HA
   simp only [impl_heard.l0] at H
   by_cases c8 : x16_1 < (l1.length : Int)
   ·rw [if_pos c8] at H
    have c8b0 : decide (x16_1 < (l1.length : Int)) = true := decide_eq_true c8
    clear c8
    by_cases c9 : 0 ≤ x16_1
    ·rw [if_pos c9] at H
     have c9b0 : decide (0 ≤ x16_1) = true := decide_eq_true c9
     clear c9
     by_cases c10 : x16_1 < (l1.length : Int)
     ·rw [if_pos c10] at H
      have c10b0 : decide (x16_1 < (l1.length : Int)) = true := decide_eq_true c10
      clear c10
      replace H := Option.bind_eq_some_iff.mp H
      obtain ⟨t119, A110, H⟩ := H
      (try dsimp only at H)
      have A11 := Aside0.mk A110
      clear A110
      have H' := Aside0.mk H
      clear H
      have p117 : 0 ≤ (x16_1 : Int) := of_decide_eq_true (by first | (with_reducible assumption) | assumption)
      have q117 : x16_1 < (l1.length : Int) := of_decide_eq_true (by first | (with_reducible assumption) | assumption)
      obtain ⟨ad117, e117, hx117_0, hx117_1, hx117_2⟩ := at_T25 HR1.out x16_1 p117 q117
      cases e117
      replace hx117_0 := (HB.out.cell (World.block_lt_of_cell? w _ hx117_0)).trans hx117_0
      replace hx117_1 := (HB.out.cell (World.block_lt_of_cell? w _ hx117_1)).trans hx117_1
      replace hx117_2 := (HB.out.cell (World.block_lt_of_cell? w _ hx117_2)).trans hx117_2
      replace p117 := eq_true p117
      replace q117 := eq_true q117
      go_wp2_with (first | ((with_reducible refine gate_dst (N := 7) rfl ?_); refine bx 7 25 #[.int .i64 0, .bool false, .int .i64 0] ?_; intro gb118 hg w12 hbox hb; replace HO_5 := Aside0.mk (Kd.R_below (pr HO_5) hb); have BK118 := hbox; have GW118 := gs hg; have GE118 := gs hg; replace HB := bs hb; clear hb hbox hg; have hcz13_0 := bc BK118 0 (.int .i64 0); have hcz13_1 := bc BK118 1 (.bool false); have hcz13_2 := bc BK118 2 (.int .i64 0); have hfz13_0 := blk_frozen BK118.out 0; have hfz13_1 := blk_frozen BK118.out 1; have hfz13_2 := blk_frozen BK118.out 2) | ((with_reducible refine gate_callee (f := 67) rfl ?_); refine gl (some 21) Tryz.func67 #[.int .i64 a0] ?_; (with_reducible refine (impl_around.calls a0 t119 _ A11.out).mono ?_); rintro e w14 ⟨rfl, hb⟩; refine ⟨_, rfl, ?_⟩; replace HO_5 := Aside0.mk (Kd.R_below (by (with_reducible repeat (first | apply Kd.R_alloc | apply Kd.R_drewN | apply Kd.R_drew)); exact (Kd.R_mono (Kd.R_far (p := ⟨gb118, 2, none⟩) (Kd.R_far (p := ⟨gb118, 1, none⟩) (Kd.R_far (p := ⟨gb118, 0, none⟩) (Kd.R_types HO_5.out BK118.out (by decide)) (fun _ hk => hk.2) (.int .i64 ((rd_T25 l1 x16_1).f0))) (fun _ hk => hk.2) (.bool ((rd_T25 l1 x16_1).f1))) (fun _ hk => hk.2) (.int .i64 ((rd_T25 l1 x16_1).f2))) (fun _ h_ => h_.1))) hb); replace BK118 := Aside0.mk (blk_below (g := gb118) (o := .cells #[.int .i64 ((rd_T25 l1 x16_1).f0), .bool ((rd_T25 l1 x16_1).f1), .int .i64 ((rd_T25 l1 x16_1).f2)] 25 (0, 0)) (by (with_reducible repeat (first | refine blk_drewN ?_ _ | refine blk_drew ?_ | refine blk_alloc ?_ _)); refine blk_put (cs := #[.int .i64 ((rd_T25 l1 x16_1).f0), .bool ((rd_T25 l1 x16_1).f1), .int .i64 0]) ?_ 2 _ rfl; (with_reducible repeat (first | refine blk_drewN ?_ _ | refine blk_drew ?_ | refine blk_alloc ?_ _)); refine blk_put (cs := #[.int .i64 ((rd_T25 l1 x16_1).f0), .bool false, .int .i64 0]) ?_ 1 _ rfl; (with_reducible repeat (first | refine blk_drewN ?_ _ | refine blk_drew ?_ | refine blk_alloc ?_ _)); refine blk_put (cs := #[.int .i64 0, .bool false, .int .i64 0]) ?_ 0 _ rfl; (with_reducible repeat (first | refine blk_drewN ?_ _ | refine blk_drew ?_ | refine blk_alloc ?_ _)); exact BK118.out) hb); replace HB := bs hb; (try clear hb)))
      go_loopg [22] k1 (fun kq v22 w' => ∃ (x5_2 : List Int) (x22_2 : Int), v22 = .int .i64 x22_2 ∧ Aside0 (impl_heard.l1 kq a0 x5_2 l1 (l1.length : Int) x16_1 t119 x22_2 ((rd_T25 l1 x16_1).f0) ((rd_T25 l1 x16_1).f1) ((rd_T25 l1 x16_1).f2) = some r) ∧ Aside0 (kq ≤ k1) ∧ Aside0 (Kd.R (Kd.int .i64) 3 w' w.heap.size (fun _ => True) v115 x5_2) ∧ Aside0 (w'.heap[gb118]? = some (.cells #[.int .i64 ((rd_T25 l1 x16_1).f0), .bool ((rd_T25 l1 x16_1).f1), .int .i64 ((rd_T25 l1 x16_1).f2)] 25 (0, 0))) ∧ Aside0 (Below w.heap.size w w'))
      case atStart => exact ⟨(x5_1), (0), (rs), H', ⟨Nat.le_refl _⟩, ⟨pr HO_5⟩, ⟨pk BK118⟩, ⟨bw⟩⟩
      case round =>
       clear H'
       try clear c1
       try clear p1
       try clear q1
       try clear hx1
       try clear p2
       try clear c3
       try clear c6
       try clear c8
       try clear c8b0
       try clear c9
       try clear c9b0
       try clear c10
       try clear c10b0
       try clear p11
       try clear q11
       try clear hx11
       try clear hcz13_0
       try clear hcz13_1
       try clear hcz13_2
       try clear hfz13_0
       try clear hfz13_1
       try clear hfz13_2
       try clear hx117_0
       try clear hx117_1
       try clear hx117_2
       try clear p117
       try clear p2
       try clear q117
       obtain ⟨x5_2, x22_2, rfl, HA, HK2, HO_5, BK118, HB⟩ := hrel
       cases gk with
       | zero => exact absurd HA.out (by simp [impl_heard.l1])
       | succ k2 =>
        have H := HA.out
        clear HA
        simp only [impl_heard.l1] at H
        by_cases c15 : x22_2 < t119
        ·rw [if_pos c15] at H
         have c15b0 : decide (x22_2 < t119) = true := decide_eq_true c15
         clear c15
         replace H := Option.bind_eq_some_iff.mp H
         obtain ⟨t120, A160, H⟩ := H
         (try dsimp only at H)
         have A16 := Aside0.mk A160
         clear A160
         by_cases c17 : 0 ≤ t120
         ·rw [if_pos c17] at H
          have c17b0 : decide (0 ≤ t120) = true := decide_eq_true c17
          clear c17
          by_cases c18 : t120 < (x5_2.length : Int)
          ·rw [if_pos c18] at H
           have c18b0 : decide (t120 < (x5_2.length : Int)) = true := decide_eq_true c18
           clear c18
           by_cases c19 : (rd x5_2 t120) < 0
           ·rw [if_pos c19] at H
            have c19b0 : decide ((rd x5_2 t120) < 0) = true := decide_eq_true c19
            clear c19
            obtain ⟨y122, hy122⟩ : ∃ y_ : List Int, y_ = (x5_2.set (t120 : Int).toNat (wrap64 (x22_2 * ((rd_T25 l1 x16_1).f2)))) := ⟨_, rfl⟩
            replace H : (impl_heard.l1 k2 a0 y122 l1 (l1.length : Int) x16_1 t119 (wrap64 (x22_2 + 1)) ((rd_T25 l1 x16_1).f0) ((rd_T25 l1 x16_1).f1) ((rd_T25 l1 x16_1).f2)) = some r := by first | (rw [hy122]; with_reducible exact H) | (have H2_ := (Option.bind_some _ _).symm.trans H; rw [hy122]; with_reducible exact H2_) | (have H2_ := (Option.bind_some _ _).symm.trans H; with_reducible exact H2_) | with_reducible exact H | (rw [hy122]; exact H) | exact H
            have Ny122 := Aside0.mk hy122
            clear hy122
            have H' := Aside0.mk H
            clear H
            have hcz21_0 : wr.cell? ⟨gb118, 0, none⟩ = some (.int .i64 ((rd_T25 l1 x16_1).f0)) := ec BK118
            have hcz21_1 : wr.cell? ⟨gb118, 1, none⟩ = some (.bool ((rd_T25 l1 x16_1).f1)) := ec BK118
            have hcz21_2 : wr.cell? ⟨gb118, 2, none⟩ = some (.int .i64 ((rd_T25 l1 x16_1).f2)) := ec BK118
            have hfz21_0 := blk_frozen BK118.out 0
            have hfz21_1 := blk_frozen BK118.out 1
            have hfz21_2 := blk_frozen BK118.out 2
            go_wp2_with (first | ((with_reducible refine gate_callee (f := 54) rfl ?_); refine gl (some 32) Tryz.func54 #[.agg #[.int .i64 ((rd_T25 l1 x16_1).f0), .bool ((rd_T25 l1 x16_1).f1), .int .i64 ((rd_T25 l1 x16_1).f2)], .int .i64 a0, .int .i64 (wrap64 (x22_2 * ((rd_T25 l1 x16_1).f2)))] ?_; (with_reducible refine (impl_Signal_place.calls ((rd_T25 l1 x16_1).f0) ((rd_T25 l1 x16_1).f1) ((rd_T25 l1 x16_1).f2) a0 (wrap64 (x22_2 * ((rd_T25 l1 x16_1).f2))) t120 _ A16.out).mono ?_); rintro e w22 ⟨rfl, hb⟩; refine ⟨_, rfl, ?_⟩; replace HO_5 := Aside0.mk (Kd.R_below (pr HO_5) hb); replace BK118 := nk BK118 hb; replace HB := bs hb; (try clear hb); obtain ⟨Ao23, co23, eo23⟩ := Kd.R_slice HO_5.out; subst eo23; have p121 : 0 ≤ (t120 : Int) := of_decide_eq_true (by first | (with_reducible assumption) | assumption); have q121 : t120 < (x5_2.length : Int) := of_decide_eq_true (by first | (with_reducible assumption) | assumption); obtain ⟨ad121, e121, hx121_0⟩ := Kd.at_int (Kd.R_reads' HO_5.out).2.2 t120 p121 q121; cases e121; replace p121 := eq_true p121; replace q121 := eq_true q121; have p20 : 0 ≤ (t120 : Int) := of_decide_eq_true (by first | (with_reducible assumption) | assumption); have q20 : (t120 : Int) < ((x5_2.length : Int) : Int) := of_decide_eq_true (by first | (with_reducible assumption) | assumption); obtain ⟨go20, co20, eo20, gb20, gl20, cl20, HG20⟩ := Kd.R_form HO_5.out (by omega); (first | cases eo20 | (injection eo20 with ea_ en_ ec_; (first | subst ea_ | (injection ea_ with ea_; subst ea_)); subst ec_; clear en_)); have GB20 := Aside0.mk gb20; have GG20 := Aside0.mk HG20; clear gb20 gl20 HG20; (first | simp only [add_plain] at hx121_0 | skip); obtain ⟨hx20_0, hf20_0⟩ := Kd.R_celln 0 HO_5.out (t120 : Int) p20 q20; replace p20 := eq_true p20; replace q20 := eq_true q20; obtain ⟨hy24_, hz24_⟩ := Kd.R_celln 0 HO_5.out (t120 : Int) (of_decide_eq_true (by first | (with_reducible assumption) | assumption)) (of_decide_eq_true (by first | (with_reducible assumption) | assumption)); have HP24 := Kd.R_putg HO_5.out (t120 : Int) (wrap64 (x22_2 * ((rd_T25 l1 x16_1).f2)))) | ((with_reducible refine gate_store (t := 3) (p := 49) rfl ?_); refine store_event (t := 3) (p := 49) (v := ?vo_w25) (w1 := (w22.setCell ⟨go20, (t120 : Int).toNat, none⟩ (.int .i64 (wrap64 (x22_2 * ((rd_T25 l1 x16_1).f2)))))) ?hg ?ho ?hn ?hr ?_; (case ho => rfl); (case hg => rfl); (case hn => rfl); (case hr => first | (go_simp; done) | (go_simp; rfl)); intro w25 hw; have hg : w22.grownBy w25 (some go20) := (by rw [hw]; exact HP24.2); have hp_ : Kd.R (Kd.int .i64) 3 w25 w.heap.size (fun _ => True) (.slice (some ⟨go20, 0, none⟩) x5_2.length co23) y122 := (by rw [hw, Ny122.out]; exact HP24.1); clear HP24; replace BK118 := Aside0.mk (blk_grown (pk BK118) hg (Kd.R_ne HO_5.out BK118.out (by decide))); replace HO_5 := Aside0.mk (hp_); replace HB := Aside0.mk ((by rw [hw]; exact below_set (HB.out) GB20.out : Below w.heap.size w w25)); clear hg hw hp_))
            go_roundg k2
            case measure => have := HK1.out; have := HK2.out; omega
            case rel => exact ⟨(y122), (wrap64 (x22_2 + 1)), (rs), H', ⟨by have := HK1.out; have := HK2.out; omega⟩, ⟨pr HO_5⟩, ⟨pk BK118⟩, ⟨bw⟩⟩
           ·rw [if_neg c19] at H
            have c19b0 : decide ((rd x5_2 t120) < 0) = false := decide_eq_false c19
            clear c19
            by_cases c26 : (wrap64 (x22_2 * ((rd_T25 l1 x16_1).f2))) < (rd x5_2 t120)
            ·rw [if_pos c26] at H
             have c26b0 : decide ((wrap64 (x22_2 * ((rd_T25 l1 x16_1).f2))) < (rd x5_2 t120)) = true := decide_eq_true c26
             clear c26
             obtain ⟨y124, hy124⟩ : ∃ y_ : List Int, y_ = (x5_2.set (t120 : Int).toNat (wrap64 (x22_2 * ((rd_T25 l1 x16_1).f2)))) := ⟨_, rfl⟩
             replace H : (impl_heard.l1 k2 a0 y124 l1 (l1.length : Int) x16_1 t119 (wrap64 (x22_2 + 1)) ((rd_T25 l1 x16_1).f0) ((rd_T25 l1 x16_1).f1) ((rd_T25 l1 x16_1).f2)) = some r := by first | (rw [hy124]; with_reducible exact H) | (have H2_ := (Option.bind_some _ _).symm.trans H; rw [hy124]; with_reducible exact H2_) | (have H2_ := (Option.bind_some _ _).symm.trans H; with_reducible exact H2_) | with_reducible exact H | (rw [hy124]; exact H) | exact H
             have Ny124 := Aside0.mk hy124
             clear hy124
             have H' := Aside0.mk H
             clear H
             have hcz28_0 : wr.cell? ⟨gb118, 0, none⟩ = some (.int .i64 ((rd_T25 l1 x16_1).f0)) := ec BK118
             have hcz28_1 : wr.cell? ⟨gb118, 1, none⟩ = some (.bool ((rd_T25 l1 x16_1).f1)) := ec BK118
             have hcz28_2 : wr.cell? ⟨gb118, 2, none⟩ = some (.int .i64 ((rd_T25 l1 x16_1).f2)) := ec BK118
             have hfz28_0 := blk_frozen BK118.out 0
             have hfz28_1 := blk_frozen BK118.out 1
             have hfz28_2 := blk_frozen BK118.out 2
             go_wp2_with (first | ((with_reducible refine gate_callee (f := 54) rfl ?_); refine gl (some 32) Tryz.func54 #[.agg #[.int .i64 ((rd_T25 l1 x16_1).f0), .bool ((rd_T25 l1 x16_1).f1), .int .i64 ((rd_T25 l1 x16_1).f2)], .int .i64 a0, .int .i64 (wrap64 (x22_2 * ((rd_T25 l1 x16_1).f2)))] ?_; (with_reducible refine (impl_Signal_place.calls ((rd_T25 l1 x16_1).f0) ((rd_T25 l1 x16_1).f1) ((rd_T25 l1 x16_1).f2) a0 (wrap64 (x22_2 * ((rd_T25 l1 x16_1).f2))) t120 _ A16.out).mono ?_); rintro e w29 ⟨rfl, hb⟩; refine ⟨_, rfl, ?_⟩; replace HO_5 := Aside0.mk (Kd.R_below (pr HO_5) hb); replace BK118 := nk BK118 hb; replace HB := bs hb; (try clear hb); obtain ⟨Ao30, co30, eo30⟩ := Kd.R_slice HO_5.out; subst eo30; have p121 : 0 ≤ (t120 : Int) := of_decide_eq_true (by first | (with_reducible assumption) | assumption); have q121 : t120 < (x5_2.length : Int) := of_decide_eq_true (by first | (with_reducible assumption) | assumption); obtain ⟨ad121, e121, hx121_0⟩ := Kd.at_int (Kd.R_reads' HO_5.out).2.2 t120 p121 q121; cases e121; replace p121 := eq_true p121; replace q121 := eq_true q121; have p123 : 0 ≤ (t120 : Int) := of_decide_eq_true (by first | (with_reducible assumption) | assumption); have q123 : t120 < (x5_2.length : Int) := of_decide_eq_true (by first | (with_reducible assumption) | assumption); obtain ⟨ad123, e123, hx123_0⟩ := Kd.at_int (Kd.R_reads' HO_5.out).2.2 t120 p123 q123; obtain rfl : ad121 = ad123 := (by injection e123); replace p123 := eq_true p123; replace q123 := eq_true q123; have p27 : 0 ≤ (t120 : Int) := of_decide_eq_true (by first | (with_reducible assumption) | assumption); have q27 : (t120 : Int) < ((x5_2.length : Int) : Int) := of_decide_eq_true (by first | (with_reducible assumption) | assumption); obtain ⟨go27, co27, eo27, gb27, gl27, cl27, HG27⟩ := Kd.R_form HO_5.out (by omega); (first | cases eo27 | (injection eo27 with ea_ en_ ec_; (first | subst ea_ | (injection ea_ with ea_; subst ea_)); subst ec_; clear en_)); have GB27 := Aside0.mk gb27; have GG27 := Aside0.mk HG27; clear gb27 gl27 HG27; (first | simp only [add_plain] at hx121_0 | skip); (first | simp only [add_plain] at hx123_0 | skip); obtain ⟨hx27_0, hf27_0⟩ := Kd.R_celln 0 HO_5.out (t120 : Int) p27 q27; replace p27 := eq_true p27; replace q27 := eq_true q27; obtain ⟨hy31_, hz31_⟩ := Kd.R_celln 0 HO_5.out (t120 : Int) (of_decide_eq_true (by first | (with_reducible assumption) | assumption)) (of_decide_eq_true (by first | (with_reducible assumption) | assumption)); have HP31 := Kd.R_putg HO_5.out (t120 : Int) (wrap64 (x22_2 * ((rd_T25 l1 x16_1).f2)))) | ((with_reducible refine gate_store (t := 3) (p := 49) rfl ?_); refine store_event (t := 3) (p := 49) (v := ?vo_w32) (w1 := (w29.setCell ⟨go27, (t120 : Int).toNat, none⟩ (.int .i64 (wrap64 (x22_2 * ((rd_T25 l1 x16_1).f2)))))) ?hg ?ho ?hn ?hr ?_; (case ho => rfl); (case hg => rfl); (case hn => rfl); (case hr => first | (go_simp; done) | (go_simp; rfl)); intro w32 hw; have hg : w29.grownBy w32 (some go27) := (by rw [hw]; exact HP31.2); have hp_ : Kd.R (Kd.int .i64) 3 w32 w.heap.size (fun _ => True) (.slice (some ⟨go27, 0, none⟩) x5_2.length co30) y124 := (by rw [hw, Ny124.out]; exact HP31.1); clear HP31; replace BK118 := Aside0.mk (blk_grown (pk BK118) hg (Kd.R_ne HO_5.out BK118.out (by decide))); replace HO_5 := Aside0.mk (hp_); replace HB := Aside0.mk ((by rw [hw]; exact below_set (HB.out) GB27.out : Below w.heap.size w w32)); clear hg hw hp_))
             go_roundg k2
             case measure => have := HK1.out; have := HK2.out; omega
             case rel => exact ⟨(y124), (wrap64 (x22_2 + 1)), (rs), H', ⟨by have := HK1.out; have := HK2.out; omega⟩, ⟨pr HO_5⟩, ⟨pk BK118⟩, ⟨bw⟩⟩
            ·rw [if_neg c26] at H
             have c26b0 : decide ((wrap64 (x22_2 * ((rd_T25 l1 x16_1).f2))) < (rd x5_2 t120)) = false := decide_eq_false c26
             clear c26
             have H' := Aside0.mk H
             clear H
             have hcz33_0 : wr.cell? ⟨gb118, 0, none⟩ = some (.int .i64 ((rd_T25 l1 x16_1).f0)) := ec BK118
             have hcz33_1 : wr.cell? ⟨gb118, 1, none⟩ = some (.bool ((rd_T25 l1 x16_1).f1)) := ec BK118
             have hcz33_2 : wr.cell? ⟨gb118, 2, none⟩ = some (.int .i64 ((rd_T25 l1 x16_1).f2)) := ec BK118
             have hfz33_0 := blk_frozen BK118.out 0
             have hfz33_1 := blk_frozen BK118.out 1
             have hfz33_2 := blk_frozen BK118.out 2
             go_wp2_with (first | ((with_reducible refine gate_callee (f := 54) rfl ?_); refine gl (some 32) Tryz.func54 #[.agg #[.int .i64 ((rd_T25 l1 x16_1).f0), .bool ((rd_T25 l1 x16_1).f1), .int .i64 ((rd_T25 l1 x16_1).f2)], .int .i64 a0, .int .i64 (wrap64 (x22_2 * ((rd_T25 l1 x16_1).f2)))] ?_; (with_reducible refine (impl_Signal_place.calls ((rd_T25 l1 x16_1).f0) ((rd_T25 l1 x16_1).f1) ((rd_T25 l1 x16_1).f2) a0 (wrap64 (x22_2 * ((rd_T25 l1 x16_1).f2))) t120 _ A16.out).mono ?_); rintro e w34 ⟨rfl, hb⟩; refine ⟨_, rfl, ?_⟩; replace HO_5 := Aside0.mk (Kd.R_below (pr HO_5) hb); replace BK118 := nk BK118 hb; replace HB := bs hb; (try clear hb); obtain ⟨Ao35, co35, eo35⟩ := Kd.R_slice HO_5.out; subst eo35; have p121 : 0 ≤ (t120 : Int) := of_decide_eq_true (by first | (with_reducible assumption) | assumption); have q121 : t120 < (x5_2.length : Int) := of_decide_eq_true (by first | (with_reducible assumption) | assumption); obtain ⟨ad121, e121, hx121_0⟩ := Kd.at_int (Kd.R_reads' HO_5.out).2.2 t120 p121 q121; cases e121; replace p121 := eq_true p121; replace q121 := eq_true q121; have p123 : 0 ≤ (t120 : Int) := of_decide_eq_true (by first | (with_reducible assumption) | assumption); have q123 : t120 < (x5_2.length : Int) := of_decide_eq_true (by first | (with_reducible assumption) | assumption); obtain ⟨ad123, e123, hx123_0⟩ := Kd.at_int (Kd.R_reads' HO_5.out).2.2 t120 p123 q123; obtain rfl : ad121 = ad123 := (by injection e123); replace p123 := eq_true p123; replace q123 := eq_true q123))
             go_roundg k2
             case measure => have := HK1.out; have := HK2.out; omega
             case rel => exact ⟨(x5_2), (wrap64 (x22_2 + 1)), (rs), H', ⟨by have := HK1.out; have := HK2.out; omega⟩, ⟨pr HO_5⟩, ⟨pk BK118⟩, ⟨bw⟩⟩
          ·rw [if_neg c18] at H
           exact absurd H (by simp)
         ·rw [if_neg c17] at H
          exact absurd H (by simp)
        ·rw [if_neg c15] at H
         have c15b0 : decide (x22_2 < t119) = false := decide_eq_false c15
         clear c15
         have H' := Aside0.mk H
         clear H
         go_wp2
         go_roundg k2
         case measure => have := HK1.out; have := HK2.out; omega
         case rel => exact ⟨(x5_2), (wrap64 (x16_1 + 1)), (rs), H', ⟨by have := HK1.out; have := HK2.out; omega⟩, ⟨pr HO_5⟩, ⟨bw⟩⟩
     ·rw [if_neg c10] at H
      exact absurd H (by simp)
    ·rw [if_neg c9] at H
     exact absurd H (by simp)
   ·rw [if_neg c8] at H
    have c8b0 : decide (x16_1 < (l1.length : Int)) = false := decide_eq_false c8
    clear c8
    obtain rfl := Option.some.inj H
    go_wp2
    go_ret
    exact ⟨_, rs, pr HO_5, bw⟩

end Go.Proofs.YtefihklpegcmpaaGreatDoor.PFnSignalsReachOfAll
