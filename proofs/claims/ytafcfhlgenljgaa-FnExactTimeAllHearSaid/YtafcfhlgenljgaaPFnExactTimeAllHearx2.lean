-- Laid by xprint, a program of this session that runs over the kit's print.
import Derived.Test.YtafcfhlgenljgaaPFnExactTimeAllHearx0
namespace Go.Proofs.Ytafcfhlgenljgaa.PFnExactTimeAllHear
open Go.RowKit Go.Proofs.YtafcfhlgenljgaaW.PrintWords Go.Proofs.YtafcfhlgenljgaaW.PrintLast Go.Proofs.YtafcfhlgenljgaaW.PrintMore Go.Proofs.Ytafcfhlgenljgaa.Sq
attribute [local go_sem] max2_int min2_int max_two min_two max_three min_three max_four min_four   -- for this text's walks alone
set_option linter.unusedVariables false
set_option linter.unusedSimpArgs false

/-! ### impl_in: function 29 -/
def impl_in.f (a0 : Int) (a1 : Int) (a2 : Int) : Option (Bool) := if a1 ≤ a0 then (some (decide (a0 ≤ a2))) else (some false)
set_option maxHeartbeats 8000000 in
set_option maxRecDepth 100000 in
theorem impl_in.calls (a0 : Int) (a1 : Int) (a2 : Int) (r : Bool) (w : World) (h : impl_in.f a0 a1 a2 = some r) :
  Calls Try.prog 29 #[.int .i64 a0, .int .i64 a1, .int .i64 a2] w fun e w' => e = .returned (.bool r) ∧ Drawn0 w w' := by
 unfold impl_in.f at h
 have H := h
 clear h
 by_cases c4 : a1 ≤ a0
 ·rw [if_pos c4] at H
  have c4b0 : decide (a1 ≤ a0) = true := decide_eq_true c4
  clear c4
  obtain rfl := Option.some.inj H
  go_enter Try.func29, Try.ntmps29
  go_wp2
  go_ret
  exact ⟨rs, by repeat (first | exact Drawn0.refl _ | apply Drawn0.step)⟩
 ·rw [if_neg c4] at H
  have c4b0 : decide (a1 ≤ a0) = false := decide_eq_false c4
  clear c4
  obtain rfl := Option.some.inj H
  go_enter Try.func29, Try.ntmps29
  go_wp2
  go_ret
  exact ⟨rs, by repeat (first | exact Drawn0.refl _ | apply Drawn0.step)⟩

/-! ### impl_isSignalRow: function 47 -/
def impl_isSignalRow.f (a0 : Int) : Option (Bool) := (impl_in.f a0 1 100).bind fun t133 => (some t133)
set_option maxHeartbeats 8000000 in
set_option maxRecDepth 100000 in
theorem impl_isSignalRow.calls (a0 : Int) (r : Bool) (w : World) (h : impl_isSignalRow.f a0 = some r) :
  Calls Try.prog 47 #[.int .i64 a0] w fun e w' => e = .returned (.bool r) ∧ Drawn0 w w' := by
 unfold impl_isSignalRow.f at h
 have H := h
 clear h
 replace H := Option.bind_eq_some_iff.mp H
 obtain ⟨t133, A20, H⟩ := H
 (try dsimp only at H)
 have A2 := Aside0.mk A20
 clear A20
 obtain rfl := Option.some.inj H
 go_enter Try.func47, Try.ntmps47
 go_wp2_with (first | ((with_reducible refine gate_callee (f := 29) rfl ?_); refine gl (some 4) Try.func29 #[.int .i64 a0, .int .i64 1, .int .i64 100] ?_; (with_reducible refine (impl_in.calls a0 1 100 t133 _ A2.out).mono ?_); rintro e w' ⟨rfl, ⟨nd, rfl⟩⟩; refine ⟨_, rfl, ?_⟩))
 go_ret
 exact ⟨rs, by repeat (first | exact Drawn0.refl _ | apply Drawn0.step)⟩

-- NOT PRINTED: function 55 (impl_Signal_55)

-- NOT PRINTED: function 52 (impl_Signal_52)

/-! ### impl_isSignal: function 28 -/
def impl_isSignal.f (a0 : Int) (a1_0 : Int) (a1_1 : Bool) (a1_2 : Int) : Option (Bool) := (impl_isSignalRow.f a0).bind fun t135 => (if t135 = true then ((impl_in.f a1_0 0 (wrap64 (a0 - 1))).bind fun t136 => (if t136 = true then ((impl_in.f a1_2 1 10).bind fun t137 => (some t137)) else (some false))) else (some false))
set_option maxHeartbeats 8000000 in
set_option maxRecDepth 100000 in
theorem impl_isSignal.calls (a0 : Int) (a1_0 : Int) (a1_1 : Bool) (a1_2 : Int) (r : Bool) (w : World) (h : impl_isSignal.f a0 a1_0 a1_1 a1_2 = some r) :
  Calls Try.prog 28 #[.int .i64 a0, .agg #[.int .i64 a1_0, .bool a1_1, .int .i64 a1_2]] w fun e w' => e = .returned (.bool r) ∧ Below w.heap.size w w' := by
 have hu27 := Try.underlying27
 have HB := Aside0.mk (Below.refl w.heap.size w)
 unfold impl_isSignal.f at h
 have H := h
 clear h
 replace H := Option.bind_eq_some_iff.mp H
 obtain ⟨t135, A30, H⟩ := H
 (try dsimp only at H)
 have A3 := Aside0.mk A30
 clear A30
 by_cases c4 : t135 = true
 ·subst c4
  rw [if_pos rfl] at H
  replace H := Option.bind_eq_some_iff.mp H
  obtain ⟨t136, A50, H⟩ := H
  (try dsimp only at H)
  have A5 := Aside0.mk A50
  clear A50
  by_cases c6 : t136 = true
  ·subst c6
   rw [if_pos rfl] at H
   replace H := Option.bind_eq_some_iff.mp H
   obtain ⟨t137, A70, H⟩ := H
   (try dsimp only at H)
   have A7 := Aside0.mk A70
   clear A70
   obtain rfl := Option.some.inj H
   go_enter Try.func28, Try.ntmps28
   go_wp2_with (first | ((with_reducible refine gate_dst (N := 3) rfl ?_); refine bx 3 27 #[.int .i64 a1_0, .bool a1_1, .int .i64 a1_2] ?_; intro gb134 hg w8 hbox hb; have BK134 := hbox; have GW134 := gs hg; have GE134 := gs hg; replace HB := bs hb; clear hb hbox hg) | ((with_reducible refine gate_callee (f := 47) rfl ?_); refine gl (some 6) Try.func47 #[.int .i64 a0] ?_; (with_reducible refine (impl_isSignalRow.calls a0 true _ A3.out).mono ?_); rintro e w' ⟨rfl, ⟨nd, rfl⟩⟩; refine ⟨_, rfl, ?_⟩; have hcz9_0 := bc BK134 0 (.int .i64 a1_0); have hcz9_1 := bc BK134 1 (.bool a1_1); have hcz9_2 := bc BK134 2 (.int .i64 a1_2); have hfz9_0 := blk_frozen BK134.out 0; have hfz9_1 := blk_frozen BK134.out 1; have hfz9_2 := blk_frozen BK134.out 2) | (go_at_call 29; (with_reducible refine (impl_in.calls a1_0 0 (wrap64 (a0 - 1)) true _ A5.out).mono ?_); rintro e w' ⟨rfl, ⟨nd, rfl⟩⟩) | (go_at_call 29; (with_reducible refine (impl_in.calls a1_2 1 10 t137 _ A7.out).mono ?_); rintro e w' ⟨rfl, ⟨nd, rfl⟩⟩))
   go_ret
   exact ⟨rs, bw⟩
  ·replace c6 := Bool.eq_false_iff.mpr c6
   subst c6
   rw [if_neg (show ¬ (false = true) by decide)] at H
   obtain rfl := Option.some.inj H
   go_enter Try.func28, Try.ntmps28
   go_wp2_with (first | ((with_reducible refine gate_dst (N := 3) rfl ?_); refine bx 3 27 #[.int .i64 a1_0, .bool a1_1, .int .i64 a1_2] ?_; intro gb134 hg w10 hbox hb; have BK134 := hbox; have GW134 := gs hg; have GE134 := gs hg; replace HB := bs hb; clear hb hbox hg) | ((with_reducible refine gate_callee (f := 47) rfl ?_); refine gl (some 6) Try.func47 #[.int .i64 a0] ?_; (with_reducible refine (impl_isSignalRow.calls a0 true _ A3.out).mono ?_); rintro e w' ⟨rfl, ⟨nd, rfl⟩⟩; refine ⟨_, rfl, ?_⟩; have hcz11_0 := bc BK134 0 (.int .i64 a1_0); have hcz11_1 := bc BK134 1 (.bool a1_1); have hcz11_2 := bc BK134 2 (.int .i64 a1_2); have hfz11_0 := blk_frozen BK134.out 0; have hfz11_1 := blk_frozen BK134.out 1; have hfz11_2 := blk_frozen BK134.out 2) | (go_at_call 29; (with_reducible refine (impl_in.calls a1_0 0 (wrap64 (a0 - 1)) false _ A5.out).mono ?_); rintro e w' ⟨rfl, ⟨nd, rfl⟩⟩))
   go_ret
   exact ⟨rs, bw⟩
 ·replace c4 := Bool.eq_false_iff.mpr c4
  subst c4
  rw [if_neg (show ¬ (false = true) by decide)] at H
  obtain rfl := Option.some.inj H
  go_enter Try.func28, Try.ntmps28
  go_wp2_with (first | ((with_reducible refine gate_dst (N := 3) rfl ?_); refine bx 3 27 #[.int .i64 a1_0, .bool a1_1, .int .i64 a1_2] ?_; intro gb134 hg w12 hbox hb; have BK134 := hbox; have GW134 := gs hg; have GE134 := gs hg; replace HB := bs hb; clear hb hbox hg) | ((with_reducible refine gate_callee (f := 47) rfl ?_); refine gl (some 6) Try.func47 #[.int .i64 a0] ?_; (with_reducible refine (impl_isSignalRow.calls a0 false _ A3.out).mono ?_); rintro e w' ⟨rfl, ⟨nd, rfl⟩⟩; refine ⟨_, rfl, ?_⟩))
  go_ret
  exact ⟨rs, bw⟩

-- NOT PRINTED: function 53 (impl_areSignals_1)

/-! ### impl_areSignals: function 41 -/
def impl_areSignals_clo.f (s0 : Int) (x0 : Int) (x1 : Bool) (x2 : Int) : Option Bool := (impl_isSignal.f s0 x0 x1 x2).bind fun t => some (!t)
set_option maxHeartbeats 8000000 in
set_option maxRecDepth 100000 in
theorem impl_areSignals_clo.calls (g : Nat) (s0 : Int) (x0 : Int) (x1 : Bool) (x2 : Int) (r : Bool) (w : World) (hg0 : w.cell? ⟨g, 0, none⟩ = some (.int .i64 s0)) (h : impl_areSignals_clo.f s0 x0 x1 x2 = some r) :
  Calls Try.prog 53 (#[.agg #[.int .i64 x0, .bool x1, .int .i64 x2]] ++ #[.pointer (some ⟨g, 0, none⟩)]) w fun e w' => e = .returned (.bool r) ∧ Below w.heap.size w w' := by
 have hu := Try.underlying27
 have HB := Aside0.mk (Below.refl w.heap.size w)
 have HG0 := Aside0.mk hg0
 clear hg0
 replace h := Option.bind_eq_some_iff.mp h
 obtain ⟨t, A0, H⟩ := h
 have A1 := Aside0.mk A0
 clear A0
 obtain rfl := Option.some.inj H
 clear H
 show Calls Try.prog 53 #[.agg #[.int .i64 x0, .bool x1, .int .i64 x2], .pointer (some ⟨g, 0, none⟩)] w _
 go_enter Try.func53, Try.ntmps53
 go_wp2_with (first | ((with_reducible refine gate_dst (N := 2) rfl ?_); refine box_event ?hg (N := 2) ?hd (cs := #[.int .i64 x0, .bool x1, .int .i64 x2]) (t := 27) ?hr ?_; (case hd => rfl); (case hg => rfl); (case hr => first | (go_simp; done) | (go_simp; rfl)); intro gb hg w8 hbox hb; have n0_ := Aside0.mk (below_step (by repeat (first | exact HB.out | apply pw_below_drewN)) hb); have n1_ := Aside0.mk hbox; have hcg0 : w8.cell? ⟨g, 0, none⟩ = some (.int .i64 s0) := (hb.cell (World.block_lt_of_cell? w _ HG0.out)).trans HG0.out; have hcz0 : w8.cell? ⟨gb, 0, none⟩ = some (.int .i64 x0) := (blk_cell n1_.out 0).trans rfl; have hcz1 : w8.cell? ⟨gb, 1, none⟩ = some (.bool x1) := (blk_cell n1_.out 1).trans rfl; have hcz2 : w8.cell? ⟨gb, 2, none⟩ = some (.int .i64 x2) := (blk_cell n1_.out 2).trans rfl; clear HB; have HB := n0_; have BK1 := n1_; clear n0_ n1_ hb hbox hg) | (go_at_call 28; (with_reducible refine (impl_isSignal.calls s0 x0 x1 x2 t _ A1.out).mono ?_); rintro e w' ⟨rfl, hb⟩; have n0_ := Aside0.mk (below_step HB.out hb); clear HB; have HB := n0_; clear n0_ hb))
 go_ret
 exact ⟨by first | rfl | simp, by repeat (first | exact HB.out | apply pw_below_drewN)⟩
def impl_areSignals_idx.l0 : Nat → Int → List (S27) → Int → Option Int
  | 0, _, _, _ => none
  | k + 1, s0, l, i => if i < (l.length : Int) then (if 0 ≤ i then ((impl_areSignals_clo.f s0 (rd_T27 l i).f0 (rd_T27 l i).f1 (rd_T27 l i).f2).bind fun t => (if t = true then (some i) else (impl_areSignals_idx.l0 k s0 l (wrap64 (i + 1))))) else none) else (some (-1))
theorem impl_areSignals_idx.mono_l : ∀ k, (∀ y0 y1 y2, LeO (impl_areSignals_idx.l0 k y0 y1 y2) (impl_areSignals_idx.l0 (k + 1) y0 y1 y2))
  | 0 => fun _ _ _ r h => by simp [impl_areSignals_idx.l0] at h
  | k + 1 => by
    have ih0 := impl_areSignals_idx.mono_l k
    · intro y0 y1 y2
      unfold impl_areSignals_idx.l0
      repeat' first
      | (with_reducible exact ih0 _ _ _)
      | (with_reducible exact LeO.refl _)
      | (with_reducible exact LeO.none _)
      | (with_reducible refine LeO.ite ?_ ?_)
      | (with_reducible refine LeO.bind ?_ (fun _ => ?_))
set_option maxHeartbeats 8000000 in
set_option maxRecDepth 100000 in
theorem impl_areSignals_idx.calls (k : Nat) (g : Nat) (s0 : Int) (A0 : Option Addr) (c0 : Nat) (l0 : List (S27)) (r : Int) (w : World) (hr0 : Kd.C k27 w A0 l0.length l0) (hc0 : l0.length ≤ c0) (hg0 : w.cell? ⟨g, 0, none⟩ = some (.int .i64 s0)) (h : impl_areSignals_idx.l0 k s0 l0 0 = some r) :
  Calls Try.prog 55 #[.slice A0 l0.length c0, .func (.func 53) #[] #[.pointer (some ⟨g, 0, none⟩)]] w fun e w' => e = .returned (.int .i64 r) ∧ Below w.heap.size w w' := by
 have hu := Try.underlying27
 have HR0 := Aside0.mk hr0
 have HC0 := Aside0.mk hc0
 clear hr0 hc0
 have HG0 := Aside0.mk hg0
 clear hg0
 have HB := Aside0.mk (Below.refl w.heap.size w)
 have H' := Aside0.mk h
 clear h
 go_enter Try.func55, Try.ntmps55
 go_wp2
 go_loopg [8] k (fun kq v8 w' => ∃ (x8 : Int), v8 = .int .i64 x8 ∧ Aside0 (impl_areSignals_idx.l0 kq s0 l0 x8 = some r) ∧ Aside0 (kq ≤ k) ∧ Aside0 (Below w.heap.size w w'))
 case atStart => exact ⟨(0), (rs), H', ⟨Nat.le_refl _⟩, HB⟩
 case round =>
  clear H' HB
  obtain ⟨x8, rfl, HA, HK1, HB⟩ := hrel
  cases gk with
  | zero => exact absurd HA.out (by simp [impl_areSignals_idx.l0])
  | succ k1 =>
   have H := HA.out
   clear HA
   simp only [impl_areSignals_idx.l0] at H
   by_cases c4 : x8 < (l0.length : Int)
   ·rw [if_pos c4] at H
    have c4b0 : decide (x8 < (l0.length : Int)) = true := decide_eq_true c4
    by_cases c5 : 0 ≤ x8
    ·rw [if_pos c5] at H
     have c5b0 : decide (0 ≤ x8) = true := decide_eq_true c5
     replace H := Option.bind_eq_some_iff.mp H
     obtain ⟨t1, A0', H⟩ := H
     have A1 := Aside0.mk A0'
     clear A0'
     obtain ⟨ad, e1, hx0, hx1, hx2⟩ := at_T27 HR0.out x8 c5 c4
     cases e1
     replace hx0 := (HB.out.cell (World.block_lt_of_cell? w _ hx0)).trans hx0
     replace hx1 := (HB.out.cell (World.block_lt_of_cell? w _ hx1)).trans hx1
     replace hx2 := (HB.out.cell (World.block_lt_of_cell? w _ hx2)).trans hx2
     have p1 := eq_true c5
     have q1 := eq_true c4
     clear c4 c5
     cases t1 with
     | true =>
      obtain rfl := Option.some.inj H
      clear H
      go_wp2_with (((with_reducible refine gate_dst (N := 16) rfl ?_); refine Fv.goesV_ (some 16) rfl rfl Try.func53 (by kernel_rfl) rfl #[.agg #[.int .i64 (rd_T27 l0 x8).f0, .bool (rd_T27 l0 x8).f1, .int .i64 (rd_T27 l0 x8).f2]] rfl (by first | rfl | (go_simp; done)) (by first | rfl | (go_simp; done)) ?_; (refine (impl_areSignals_clo.calls g s0  _ _ _ _ _ ((HB.out.cell (World.block_lt_of_cell? w _ HG0.out)).trans HG0.out) A1.out).mono ?_); rintro e w' ⟨rfl, hb⟩; refine ⟨_, rfl, ?_⟩; have n0_ := Aside0.mk (below_step HB.out hb); clear HB; have HB := n0_; clear n0_ hb))
      go_ret
      exact ⟨by first | rfl | simp, HB.out⟩
     | false =>
      have H' := Aside0.mk (show impl_areSignals_idx.l0 k1 s0 l0 (wrap64 (x8 + 1)) = some r from by simpa using H)
      clear H
      go_wp2_with (((with_reducible refine gate_dst (N := 16) rfl ?_); refine Fv.goesV_ (some 16) rfl rfl Try.func53 (by kernel_rfl) rfl #[.agg #[.int .i64 (rd_T27 l0 x8).f0, .bool (rd_T27 l0 x8).f1, .int .i64 (rd_T27 l0 x8).f2]] rfl (by first | rfl | (go_simp; done)) (by first | rfl | (go_simp; done)) ?_; (refine (impl_areSignals_clo.calls g s0  _ _ _ _ _ ((HB.out.cell (World.block_lt_of_cell? w _ HG0.out)).trans HG0.out) A1.out).mono ?_); rintro e w' ⟨rfl, hb⟩; refine ⟨_, rfl, ?_⟩; have n0_ := Aside0.mk (below_step HB.out hb); clear HB; have HB := n0_; clear n0_ hb))
      go_roundg k1
      case measure => have := HK1.out; omega
      case rel => exact ⟨(wrap64 (x8 + 1)), (rs), H', ⟨by have := HK1.out; omega⟩, HB⟩
    ·rw [if_neg c5] at H
     exact absurd H (by simp)
   ·rw [if_neg c4] at H
    have c4b0 : decide (x8 < (l0.length : Int)) = false := decide_eq_false c4
    clear c4
    obtain rfl := Option.some.inj H
    clear H
    go_wp2
    go_ret
    exact ⟨by first | rfl | simp, HB.out⟩
def impl_areSignals_has.f (k : Nat) (s0 : Int) (l : List (S27)) : Option Bool := (impl_areSignals_idx.l0 k s0 l 0).bind fun i => some (decide (0 ≤ i))
theorem impl_areSignals_has.mono : ∀ s0 a0 k, LeO (impl_areSignals_has.f k s0 a0) (impl_areSignals_has.f (k + 1) s0 a0) := by
  intro s0 a0 k
  unfold impl_areSignals_has.f
  repeat' first
      | (with_reducible exact impl_areSignals_idx.mono_l k _ _ _)
      | (with_reducible exact LeO.refl _)
      | (with_reducible exact LeO.none _)
      | (with_reducible refine LeO.ite ?_ ?_)
      | (with_reducible refine LeO.bind ?_ (fun _ => ?_))
set_option maxHeartbeats 8000000 in
set_option maxRecDepth 100000 in
theorem impl_areSignals_has.calls (k : Nat) (g : Nat) (s0 : Int) (A0 : Option Addr) (c0 : Nat) (l0 : List (S27)) (r : Bool) (w : World) (hr0 : Kd.C k27 w A0 l0.length l0) (hc0 : l0.length ≤ c0) (hg0 : w.cell? ⟨g, 0, none⟩ = some (.int .i64 s0)) (h : impl_areSignals_has.f k s0 l0 = some r) :
  Calls Try.prog 52 #[.slice A0 l0.length c0, .func (.func 53) #[] #[.pointer (some ⟨g, 0, none⟩)]] w fun e w' => e = .returned (.bool r) ∧ Below w.heap.size w w' := by
 have HR0 := Aside0.mk hr0
 have HC0 := Aside0.mk hc0
 clear hr0 hc0
 have HG0 := Aside0.mk hg0
 clear hg0
 have HB := Aside0.mk (Below.refl w.heap.size w)
 replace h := Option.bind_eq_some_iff.mp h
 obtain ⟨t, A0', H⟩ := h
 have A1 := Aside0.mk A0'
 clear A0'
 obtain rfl := Option.some.inj H
 clear H
 go_enter Try.func52, Try.ntmps52
 go_wp2_with (go_at_call 55; (refine (impl_areSignals_idx.calls k g s0 A0 c0 l0 t _ HR0.out HC0.out HG0.out A1.out).mono ?_); rintro e w' ⟨rfl, hb⟩; have n0_ := Aside0.mk (below_step HB.out hb); clear HB; have HB := n0_; clear n0_ hb)
 go_ret
 exact ⟨by first | rfl | simp, HB.out⟩
def impl_areSignals.f (k : Nat) (a0 : Int) (l1 : List S27) : Option Bool := (impl_isSignalRow.f a0).bind fun t1 => (if t1 = true then ((impl_in.f (l1.length : Int) 1 10).bind fun t2 => (if t2 = true then ((impl_areSignals_has.f k a0 l1).bind fun t3 => (some (!t3))) else (some false))) else (some false))
theorem impl_areSignals.mono : ∀ a0 a1 k, LeO (impl_areSignals.f k a0 a1) (impl_areSignals.f (k + 1) a0 a1) := by
  intro a0 a1 k
  unfold impl_areSignals.f
  repeat' first
      | (with_reducible exact impl_areSignals_has.mono _ _ k)
      | (with_reducible exact LeO.refl _)
      | (with_reducible exact LeO.none _)
      | (with_reducible refine LeO.ite ?_ ?_)
      | (with_reducible refine LeO.bind ?_ (fun _ => ?_))
set_option maxHeartbeats 8000000 in
set_option maxRecDepth 100000 in
theorem impl_areSignals.calls (k : Nat) (a0 : Int) (A1 : Option Addr) (c1 : Nat) (l1 : List (S27)) (r : Bool) (w : World) (hr1 : Kd.C k27 w A1 l1.length l1) (hc1 : l1.length ≤ c1) (h : impl_areSignals.f k a0 l1 = some r) :
  Calls Try.prog 41 #[.int .i64 a0, .slice A1 l1.length c1] w fun e w' => e = .returned (.bool r) ∧ Below w.heap.size w w' := by
 have HR1 := Aside0.mk hr1
 have HC1 := Aside0.mk hc1
 clear hr1 hc1
 have HB := Aside0.mk (Below.refl w.heap.size w)
 replace h := Option.bind_eq_some_iff.mp h
 obtain ⟨t1, A0', H⟩ := h
 have Ax := Aside0.mk A0'
 clear A0'
 have hu3 := Try.underlying3
 cases t1 with
 | false =>
  obtain rfl := Option.some.inj (show (some false) = some r from by simpa using H)
  clear H
  go_enter Try.func41, Try.ntmps41
  go_wp2_with (first | ((with_reducible refine gate_dst (N := 2) rfl ?_); refine box_event ?hg (N := 2) ?hd (cs := #[.int .i64 a0]) (t := 3) ?hr ?_; (case hd => rfl); (case hg => rfl); (case hr => first | (go_simp; done) | (go_simp; rfl)); intro gb hg w8 hbox hb; have n0_ := Aside0.mk (below_step (by repeat (first | exact HB.out | apply pw_below_drewN)) hb); have n1_ := Aside0.mk hbox; have hcz0 : w8.cell? ⟨gb, 0, none⟩ = some (.int .i64 a0) := (blk_cell n1_.out 0).trans rfl; clear HB; have HB := n0_; have BK1 := n1_; clear n0_ n1_ hb hbox hg) | (go_at_call 47; (with_reducible refine (impl_isSignalRow.calls a0 false _ Ax.out).mono ?_); rintro e w' ⟨rfl, ⟨nd, rfl⟩⟩))
  go_ret
  exact ⟨by first | rfl | simp, by repeat (first | exact HB.out | apply pw_below_drewN)⟩
 | true =>
  replace H : ((impl_in.f (l1.length : Int) 1 10).bind fun t2 => (if t2 = true then ((impl_areSignals_has.f k a0 l1).bind fun t3 => (some (!t3))) else (some false))) = some r := by simpa using H
  replace H := Option.bind_eq_some_iff.mp H
  obtain ⟨t2, A0', H⟩ := H
  have Ay := Aside0.mk A0'
  clear A0'
  cases t2 with
  | false =>
   obtain rfl := Option.some.inj (show (some false) = some r from by simpa using H)
   clear H
   go_enter Try.func41, Try.ntmps41
   go_wp2_with (first | ((with_reducible refine gate_dst (N := 2) rfl ?_); refine box_event ?hg (N := 2) ?hd (cs := #[.int .i64 a0]) (t := 3) ?hr ?_; (case hd => rfl); (case hg => rfl); (case hr => first | (go_simp; done) | (go_simp; rfl)); intro gb hg w8 hbox hb; have n0_ := Aside0.mk (below_step (by repeat (first | exact HB.out | apply pw_below_drewN)) hb); have n1_ := Aside0.mk hbox; have hcz0 : w8.cell? ⟨gb, 0, none⟩ = some (.int .i64 a0) := (blk_cell n1_.out 0).trans rfl; clear HB; have HB := n0_; have BK1 := n1_; clear n0_ n1_ hb hbox hg) | (go_at_call 47; (with_reducible refine (impl_isSignalRow.calls a0 true _ Ax.out).mono ?_); rintro e w' ⟨rfl, ⟨nd, rfl⟩⟩) | (go_at_call 29; (with_reducible refine (impl_in.calls (l1.length : Int) 1 10 false _ Ay.out).mono ?_); rintro e w' ⟨rfl, ⟨nd2, rfl⟩⟩))
   go_ret
   exact ⟨by first | rfl | simp, by repeat (first | exact HB.out | apply pw_below_drewN)⟩
  | true =>
   replace H : ((impl_areSignals_has.f k a0 l1).bind fun t3 => (some (!t3))) = some r := by simpa using H
   replace H := Option.bind_eq_some_iff.mp H
   obtain ⟨t3, A0', H⟩ := H
   have Az := Aside0.mk A0'
   clear A0'
   obtain rfl := Option.some.inj H
   clear H
   go_enter Try.func41, Try.ntmps41
   go_wp2_with (first | ((with_reducible refine gate_dst (N := 2) rfl ?_); refine box_event ?hg (N := 2) ?hd (cs := #[.int .i64 a0]) (t := 3) ?hr ?_; (case hd => rfl); (case hg => rfl); (case hr => first | (go_simp; done) | (go_simp; rfl)); intro gb hg w8 hbox hb; have n0_ := Aside0.mk (below_step (by repeat (first | exact HB.out | apply pw_below_drewN)) hb); have n1_ := Aside0.mk hbox; have hcz0 : w8.cell? ⟨gb, 0, none⟩ = some (.int .i64 a0) := (blk_cell n1_.out 0).trans rfl; clear HB; have HB := n0_; have BK1 := n1_; clear n0_ n1_ hb hbox hg) | (go_at_call 47; (with_reducible refine (impl_isSignalRow.calls a0 true _ Ax.out).mono ?_); rintro e w' ⟨rfl, ⟨nd, rfl⟩⟩) | (go_at_call 29; (with_reducible refine (impl_in.calls (l1.length : Int) 1 10 true _ Ay.out).mono ?_); rintro e w' ⟨rfl, ⟨nd2, rfl⟩⟩) | (go_at_call 52; (refine (impl_areSignals_has.calls k gb a0 A1 c1 l1 t3 _ (Kd.C_below HR1.out (by repeat (first | exact HB.out | apply pw_below_drewN))) HC1.out (by first | exact hcz0 | (go_simp; done)) Az.out).mono ?_); rintro e w' ⟨rfl, hb⟩; have n0_ := Aside0.mk (below_step (by repeat (first | exact HB.out | apply pw_below_drewN)) hb); clear HB; have HB := n0_; clear n0_ hb))
   go_ret
   exact ⟨by first | rfl | simp, by repeat (first | exact HB.out | apply pw_below_drewN)⟩

/-! ### slices_Max_int_int: function 42 -/
def slices_Max_int_int.l0 : Nat → List Int → Int → Int → Option (Int)
  | 0, _, _, _ => none
  | k + 1, x0, x3, x4 => if x4 < (x0.length : Int) then (if 0 ≤ x4 then (slices_Max_int_int.l0 k x0 (mx x3 (rd x0 x4)) (wrap64 (x4 + 1))) else (none)) else (some x3)
def slices_Max_int_int.f (k : Nat) (l0 : List Int) : Option (Int) := if (l0.length : Int) < 1 then (none) else (if 0 < (l0.length : Int) then (slices_Max_int_int.l0 k l0 (rd l0 0) 1) else (none))
theorem slices_Max_int_int.mono_l : ∀ k, (∀ y0 y1 y2, LeO (slices_Max_int_int.l0 k y0 y1 y2) (slices_Max_int_int.l0 (k + 1) y0 y1 y2))
  | 0 => fun _ _ _ r h => by simp [slices_Max_int_int.l0] at h
  | k + 1 => by
    have ih0 := slices_Max_int_int.mono_l k
    · intro y0 y1 y2
      unfold slices_Max_int_int.l0
      repeat' first
      | (with_reducible exact ih0 _ _ _)
      | (with_reducible exact LeO.refl _)
      | (with_reducible exact LeO.none _)
      | (with_reducible refine LeO.ite ?_ ?_)
      | (with_reducible refine LeO.bind ?_ (fun _ => ?_))
      | exact ih0 _ _ _
      | exact LeO.none _
      | refine LeO.ite ?_ ?_
      | refine LeO.bind ?_ (fun _ => ?_)
theorem slices_Max_int_int.mono : ∀ a0 k, LeO (slices_Max_int_int.f k a0) (slices_Max_int_int.f (k + 1) a0) := by
  intro a0 k
  have ih0 := slices_Max_int_int.mono_l k
  unfold slices_Max_int_int.f
  repeat' first
      | (with_reducible exact ih0 _ _ _)
      | (with_reducible exact LeO.refl _)
      | (with_reducible exact LeO.none _)
      | (with_reducible refine LeO.ite ?_ ?_)
      | (with_reducible refine LeO.bind ?_ (fun _ => ?_))
      | exact ih0 _ _ _
      | exact LeO.none _
      | refine LeO.ite ?_ ?_
      | refine LeO.bind ?_ (fun _ => ?_)
set_option maxHeartbeats 8000000 in
set_option maxRecDepth 100000 in
theorem slices_Max_int_int.calls (k : Nat) (A0 : Option Addr) (c0 : Nat) (l0 : List Int) (r : Int) (w : World) (hr0 : Kd.C (Kd.int .i64) w A0 l0.length l0) (hc0 : l0.length ≤ c0) (h : slices_Max_int_int.f k l0 = some r) :
  Calls Try.prog 42 #[.slice A0 l0.length c0] w fun e w' => e = .returned (.int .i64 r) ∧ Below w.heap.size w w' := by
 have HR0 := Aside0.mk hr0
 have HC0 := Aside0.mk hc0
 clear hr0 hc0
 have HB := Aside0.mk (Below.refl w.heap.size w)
 unfold slices_Max_int_int.f at h
 have H := h
 clear h
 by_cases c2 : (l0.length : Int) < 1
 ·rw [if_pos c2] at H
  exact absurd H (by simp)
 ·rw [if_neg c2] at H
  have c2b0 : decide ((l0.length : Int) < 1) = false := decide_eq_false c2
  have c2b1 : decide (l0.length < 1) = false := decide_eq_false (by omega)
  clear c2
  by_cases c3 : 0 < (l0.length : Int)
  ·rw [if_pos c3] at H
   have c3b0 : decide (0 < (l0.length : Int)) = true := decide_eq_true c3
   have c3b1 : decide (0 < l0.length) = true := decide_eq_true (by omega)
   clear c3
   have H' := Aside0.mk H
   clear H
   have p138 : 0 ≤ (0 : Int) := (by omega)
   have q138 : 0 < (l0.length : Int) := of_decide_eq_true (by first | (with_reducible assumption) | assumption)
   obtain ⟨ad138, e138, hx138_0⟩ := Kd.at_int HR0.out 0 p138 q138
   cases e138
   have qi138 : (0 < l0.length) = True := eq_true (by omega)
   (try rw [show ((0 : Int)).toNat = 0 from rfl] at hx138_0)
   (try rw [Addr.add_zero'] at hx138_0)
   replace p138 := eq_true p138
   replace q138 := eq_true q138
   go_enter Try.func42, Try.ntmps42
   go_wp2
   go_loopg [3, 4] k (fun kq v3 v4 w' => ∃ (x3_1 : Int) (x4_1 : Int), v3 = .int .i64 x3_1 ∧ v4 = .int .i64 x4_1 ∧ Aside0 (slices_Max_int_int.l0 kq l0 x3_1 x4_1 = some r) ∧ Aside0 (kq ≤ k) ∧ Aside0 (Below w.heap.size w w'))
   case atStart => exact ⟨(rd l0 0), (1), (rs), (rs), H', ⟨Nat.le_refl _⟩, ⟨bw⟩⟩
   case round =>
    clear H'
    try clear p1
    try clear q1
    try clear hx1
    try clear qi1
    try clear c2
    try clear c2b0
    try clear c2b1
    try clear p2
    try clear c3
    try clear c3b0
    try clear c3b1
    try clear hx138_0
    try clear p138
    try clear q138
    obtain ⟨x3_1, x4_1, rfl, rfl, HA, HK1, HB⟩ := hrel
    cases gk with
    | zero => exact absurd HA.out (by simp [slices_Max_int_int.l0])
    | succ k1 =>
     have H := HA.out
     clear HA
     simp only [slices_Max_int_int.l0] at H
     by_cases c4 : x4_1 < (l0.length : Int)
     ·rw [if_pos c4] at H
      have c4b0 : decide (x4_1 < (l0.length : Int)) = true := decide_eq_true c4
      clear c4
      by_cases c5 : 0 ≤ x4_1
      ·rw [if_pos c5] at H
       have c5b0 : decide (0 ≤ x4_1) = true := decide_eq_true c5
       clear c5
       obtain ⟨ji6, hji6⟩ : ∃ j_ : Int, (mx x3_1 (rd l0 x4_1)) = j_ := ⟨_, rfl⟩
       replace H : (slices_Max_int_int.l0 k1 l0 ji6 (wrap64 (x4_1 + 1))) = some r := by first | (rw [hji6] at H; exact H) | (simp only [hji6] at H ⊢; exact H)
       have hji6_ : (if x3_1 < (rd l0 x4_1) then (rd l0 x4_1) else x3_1) = ji6 := hji6
       have H' := Aside0.mk H
       clear H
       have p139 : 0 ≤ (x4_1 : Int) := of_decide_eq_true (by first | (with_reducible assumption) | assumption)
       have q139 : x4_1 < (l0.length : Int) := of_decide_eq_true (by first | (with_reducible assumption) | assumption)
       obtain ⟨ad139, e139, hx139_0⟩ := Kd.at_int HR0.out x4_1 p139 q139
       obtain rfl : ad138 = ad139 := (by injection e139)
       replace hx139_0 := (HB.out.cell (World.block_lt_of_cell? w _ hx139_0)).trans hx139_0
       replace p139 := eq_true p139
       replace q139 := eq_true q139
       go_wp2
       go_roundg k1
       case measure => have := HK1.out; omega
       case rel => exact ⟨(ji6), (wrap64 (x4_1 + 1)), (by first | rfl | (simp; done) | (simp only [← hji6] <;> (first | rfl | simp)) | (simp [*]; done)), (rs), H', ⟨by have := HK1.out; omega⟩, ⟨bw⟩⟩
      ·rw [if_neg c5] at H
       exact absurd H (by simp)
     ·rw [if_neg c4] at H
      have c4b0 : decide (x4_1 < (l0.length : Int)) = false := decide_eq_false c4
      clear c4
      obtain rfl := Option.some.inj H
      go_wp2
      go_ret
      exact ⟨rs, bw⟩
  ·rw [if_neg c3] at H
   exact absurd H (by simp)

/-! ### impl_around: function 48 -/
def impl_around.f (a0 : Int) : Option (Int) := some (mx (wrap64 (2 * (wrap64 (a0 - 1)))) 1)
set_option maxHeartbeats 8000000 in
set_option maxRecDepth 100000 in
theorem impl_around.calls (a0 : Int) (r : Int) (w : World) (h : impl_around.f a0 = some r) :
  Calls Try.prog 48 #[.int .i64 a0] w fun e w' => e = .returned (.int .i64 r) ∧ Below w.heap.size w w' := by
 have HB := Aside0.mk (Below.refl w.heap.size w)
 unfold impl_around.f at h
 have H := h
 clear h
 obtain ⟨ji2, hji2⟩ : ∃ j_ : Int, (mx (wrap64 (2 * (wrap64 (a0 - 1)))) 1) = j_ := ⟨_, rfl⟩
 replace H : (some ji2) = some r := by first | (rw [hji2] at H; exact H) | (simp only [hji2] at H ⊢; exact H)
 (try (have hji2l : 1 ≤ ji2 := by (rw [← hji2]; unfold mx; (repeat' split) <;> omega)))
 (try (have hji2m : 0 ≤ ji2 := by omega))
 have hji2_ : (if (wrap64 (2 * (wrap64 (a0 - 1)))) < 1 then 1 else (wrap64 (2 * (wrap64 (a0 - 1))))) = ji2 := hji2
 obtain rfl := Option.some.inj H
 go_enter Try.func48, Try.ntmps48
 go_wp2
 go_ret
 exact ⟨by first | rfl | (simp [errW_none, errW_some] <;> rfl) | (simp only [← hji2]; first | rfl | (simp [errW_none, errW_some] <;> rfl)) | (simp [*, errW_none, errW_some] <;> rfl), bw⟩

/-! ### impl_Signal_place: function 31 -/
def impl_Signal_place.f (a0_0 : Int) (a0_1 : Bool) (a0_2 : Int) (a1 : Int) (a2 : Int) : Option (Int) := if a1 = 1 then (some 0) else ((impl_around.f a1).bind fun t141 => (if a0_1 = true then (if a0_2 = 0 then (none) else (if t141 = 0 then (none) else (some (mn (Int.tmod (wrap64 ((wrap64 (t141 - a0_0)) + (wrap64 (Int.tdiv a2 a0_2)))) t141) (wrap64 (t141 - (Int.tmod (wrap64 ((wrap64 (t141 - a0_0)) + (wrap64 (Int.tdiv a2 a0_2)))) t141))))))) else (if a0_2 = 0 then (none) else (if t141 = 0 then (none) else (some (mn (Int.tmod (wrap64 (a0_0 + (wrap64 (Int.tdiv a2 a0_2)))) t141) (wrap64 (t141 - (Int.tmod (wrap64 (a0_0 + (wrap64 (Int.tdiv a2 a0_2)))) t141)))))))))
set_option maxHeartbeats 8000000 in
set_option maxRecDepth 100000 in
theorem impl_Signal_place.calls (a0_0 : Int) (a0_1 : Bool) (a0_2 : Int) (a1 : Int) (a2 : Int) (r : Int) (w : World) (h : impl_Signal_place.f a0_0 a0_1 a0_2 a1 a2 = some r) :
  Calls Try.prog 31 #[.agg #[.int .i64 a0_0, .bool a0_1, .int .i64 a0_2], .int .i64 a1, .int .i64 a2] w fun e w' => e = .returned (.int .i64 r) ∧ Below w.heap.size w w' := by
 have hu27 := Try.underlying27
 have HB := Aside0.mk (Below.refl w.heap.size w)
 unfold impl_Signal_place.f at h
 have H := h
 clear h
 by_cases c4 : a1 = 1
 ·rw [if_pos c4] at H
  have c4b0 : (a1 == 1) = true := beq_iff_eq.mpr c4
  have c4b1 : (a1 != 1) = false := bne_eq_false_iff_eq.mpr c4
  clear c4
  obtain rfl := Option.some.inj H
  go_enter Try.func31, Try.ntmps31
  go_wp2_with (first | ((with_reducible refine gate_dst (N := 3) rfl ?_); refine bx 3 27 #[.int .i64 a0_0, .bool a0_1, .int .i64 a0_2] ?_; intro gb140 hg w5 hbox hb; have BK140 := hbox; have GW140 := gs hg; have GE140 := gs hg; replace HB := bs hb; clear hb hbox hg))
  go_ret
  exact ⟨rs, bw⟩
 ·rw [if_neg c4] at H
  have c4b0 : (a1 == 1) = false := beq_eq_false_iff_ne.mpr c4
  have c4b1 : (a1 != 1) = true := bne_iff_ne.mpr c4
  replace H := Option.bind_eq_some_iff.mp H
  obtain ⟨t141, A60, H⟩ := H
  (try dsimp only at H)
  have A6 := Aside0.mk A60
  clear A60
  by_cases c7 : a0_1 = true
  ·subst c7
   rw [if_pos rfl] at H
   by_cases c8 : a0_2 = 0
   ·rw [if_pos c8] at H
    exact absurd H (by simp)
   ·rw [if_neg c8] at H
    have c8b0 : (a0_2 == 0) = false := beq_eq_false_iff_ne.mpr c8
    have c8b1 : (a0_2 != 0) = true := bne_iff_ne.mpr c8
    by_cases c9 : t141 = 0
    ·rw [if_pos c9] at H
     exact absurd H (by simp)
    ·rw [if_neg c9] at H
     have c9b0 : (t141 == 0) = false := beq_eq_false_iff_ne.mpr c9
     have c9b1 : (t141 != 0) = true := bne_iff_ne.mpr c9
     obtain ⟨ji10, hji10⟩ : ∃ j_ : Int, (mn (Int.tmod (wrap64 ((wrap64 (t141 - a0_0)) + (wrap64 (Int.tdiv a2 a0_2)))) t141) (wrap64 (t141 - (Int.tmod (wrap64 ((wrap64 (t141 - a0_0)) + (wrap64 (Int.tdiv a2 a0_2)))) t141)))) = j_ := ⟨_, rfl⟩
     replace H : (some ji10) = some r := by first | (rw [hji10] at H; exact H) | (simp only [hji10] at H ⊢; exact H)
     (try rw [hji10] at A6)
     have hji10_ : (if (wrap64 (t141 - (Int.tmod (wrap64 ((wrap64 (t141 - a0_0)) + (wrap64 (Int.tdiv a2 a0_2)))) t141))) < (Int.tmod (wrap64 ((wrap64 (t141 - a0_0)) + (wrap64 (Int.tdiv a2 a0_2)))) t141) then (wrap64 (t141 - (Int.tmod (wrap64 ((wrap64 (t141 - a0_0)) + (wrap64 (Int.tdiv a2 a0_2)))) t141))) else (Int.tmod (wrap64 ((wrap64 (t141 - a0_0)) + (wrap64 (Int.tdiv a2 a0_2)))) t141)) = ji10 := hji10
     obtain rfl := Option.some.inj H
     go_enter Try.func31, Try.ntmps31
     go_wp2_with (first | ((with_reducible refine gate_dst (N := 3) rfl ?_); refine bx 3 27 #[.int .i64 a0_0, .bool true, .int .i64 a0_2] ?_; intro gb140 hg w11 hbox hb; have BK140 := hbox; have GW140 := gs hg; have GE140 := gs hg; replace HB := bs hb; clear hb hbox hg) | ((with_reducible refine gate_callee (f := 48) rfl ?_); refine gl (some 12) Try.func48 #[.int .i64 a1] ?_; (with_reducible refine (impl_around.calls a1 t141 _ A6.out).mono ?_); rintro e w12 ⟨rfl, hb⟩; refine ⟨_, rfl, ?_⟩; replace BK140 := nk BK140 hb; replace HB := bs hb; (try clear hb); have hcz13_0 := bc BK140 0 (.int .i64 a0_0); have hcz13_1 := bc BK140 1 (.bool true); have hcz13_2 := bc BK140 2 (.int .i64 a0_2); have hfz13_0 := blk_frozen BK140.out 0; have hfz13_1 := blk_frozen BK140.out 1; have hfz13_2 := blk_frozen BK140.out 2))
     go_ret
     exact ⟨by first | rfl | (simp [errW_none, errW_some] <;> rfl) | (simp only [← hji10]; first | rfl | (simp [errW_none, errW_some] <;> rfl)) | (simp [*, errW_none, errW_some] <;> rfl), bw⟩
  ·replace c7 := Bool.eq_false_iff.mpr c7
   subst c7
   rw [if_neg (show ¬ (false = true) by decide)] at H
   by_cases c14 : a0_2 = 0
   ·rw [if_pos c14] at H
    exact absurd H (by simp)
   ·rw [if_neg c14] at H
    have c14b0 : (a0_2 == 0) = false := beq_eq_false_iff_ne.mpr c14
    have c14b1 : (a0_2 != 0) = true := bne_iff_ne.mpr c14
    by_cases c15 : t141 = 0
    ·rw [if_pos c15] at H
     exact absurd H (by simp)
    ·rw [if_neg c15] at H
     have c15b0 : (t141 == 0) = false := beq_eq_false_iff_ne.mpr c15
     have c15b1 : (t141 != 0) = true := bne_iff_ne.mpr c15
     obtain ⟨ji16, hji16⟩ : ∃ j_ : Int, (mn (Int.tmod (wrap64 (a0_0 + (wrap64 (Int.tdiv a2 a0_2)))) t141) (wrap64 (t141 - (Int.tmod (wrap64 (a0_0 + (wrap64 (Int.tdiv a2 a0_2)))) t141)))) = j_ := ⟨_, rfl⟩
     replace H : (some ji16) = some r := by first | (rw [hji16] at H; exact H) | (simp only [hji16] at H ⊢; exact H)
     (try rw [hji16] at A6)
     have hji16_ : (if (wrap64 (t141 - (Int.tmod (wrap64 (a0_0 + (wrap64 (Int.tdiv a2 a0_2)))) t141))) < (Int.tmod (wrap64 (a0_0 + (wrap64 (Int.tdiv a2 a0_2)))) t141) then (wrap64 (t141 - (Int.tmod (wrap64 (a0_0 + (wrap64 (Int.tdiv a2 a0_2)))) t141))) else (Int.tmod (wrap64 (a0_0 + (wrap64 (Int.tdiv a2 a0_2)))) t141)) = ji16 := hji16
     obtain rfl := Option.some.inj H
     go_enter Try.func31, Try.ntmps31
     go_wp2_with (first | ((with_reducible refine gate_dst (N := 3) rfl ?_); refine bx 3 27 #[.int .i64 a0_0, .bool false, .int .i64 a0_2] ?_; intro gb140 hg w17 hbox hb; have BK140 := hbox; have GW140 := gs hg; have GE140 := gs hg; replace HB := bs hb; clear hb hbox hg) | ((with_reducible refine gate_callee (f := 48) rfl ?_); refine gl (some 12) Try.func48 #[.int .i64 a1] ?_; (with_reducible refine (impl_around.calls a1 t141 _ A6.out).mono ?_); rintro e w18 ⟨rfl, hb⟩; refine ⟨_, rfl, ?_⟩; replace BK140 := nk BK140 hb; replace HB := bs hb; (try clear hb); have hcz19_0 := bc BK140 0 (.int .i64 a0_0); have hcz19_1 := bc BK140 1 (.bool false); have hcz19_2 := bc BK140 2 (.int .i64 a0_2); have hfz19_0 := blk_frozen BK140.out 0; have hfz19_1 := blk_frozen BK140.out 1; have hfz19_2 := blk_frozen BK140.out 2))
     go_ret
     exact ⟨by first | rfl | (simp [errW_none, errW_some] <;> rfl) | (simp only [← hji16]; first | rfl | (simp [errW_none, errW_some] <;> rfl)) | (simp [*, errW_none, errW_some] <;> rfl), bw⟩

/-! ### bits_Mul32: function 57 -/
def bits_Mul32.f (a0 : Int) (a1 : Int) : Option (Int × Int) := some (((IntKind.u64.wrap ((IntKind.u64.wrap (a0)) * (IntKind.u64.wrap (a1)))) / 4294967296) % 4294967296, (IntKind.u64.wrap ((IntKind.u64.wrap (a0)) * (IntKind.u64.wrap (a1)))) % 4294967296)
set_option maxHeartbeats 8000000 in
set_option maxRecDepth 100000 in
theorem bits_Mul32.calls (a0 : Int) (a1 : Int) (r1 : Int) (r2 : Int) (w : World) (h : bits_Mul32.f a0 a1 = some (r1, r2)) :
  Calls Try.prog 57 #[.int .u32 a0, .int .u32 a1] w fun e w' => e = .returned (.tuple #[.int .u32 r1, .int .u32 r2]) ∧ Drawn0 w w' := by
 unfold bits_Mul32.f at h
 have H := h
 clear h
 simp only [Option.some.injEq, Prod.mk.injEq] at H
 obtain ⟨rfl, rfl⟩ := H
 go_enter Try.func57, Try.ntmps57
 go_wp2
 go_ret2
 exact ⟨rs, by repeat (first | exact Drawn0.refl _ | apply Drawn0.step)⟩

/-! ### bits_Mul64: function 58 -/
def bits_Mul64.f (a0 : Int) (a1 : Int) : Option (Int × Int) := some (IntKind.u64.wrap ((IntKind.u64.wrap ((IntKind.u64.wrap ((a0 / 4294967296) * (a1 / 4294967296))) + ((IntKind.u64.wrap ((IntKind.u64.wrap ((a0 / 4294967296) * (Go.bits .and .u64 a1 4294967295))) + ((IntKind.u64.wrap ((Go.bits .and .u64 a0 4294967295) * (Go.bits .and .u64 a1 4294967295))) / 4294967296))) / 4294967296))) + ((IntKind.u64.wrap ((Go.bits .and .u64 (IntKind.u64.wrap ((IntKind.u64.wrap ((a0 / 4294967296) * (Go.bits .and .u64 a1 4294967295))) + ((IntKind.u64.wrap ((Go.bits .and .u64 a0 4294967295) * (Go.bits .and .u64 a1 4294967295))) / 4294967296))) 4294967295) + (IntKind.u64.wrap ((Go.bits .and .u64 a0 4294967295) * (a1 / 4294967296))))) / 4294967296)), IntKind.u64.wrap (a0 * a1))
set_option maxHeartbeats 8000000 in
set_option maxRecDepth 100000 in
theorem bits_Mul64.calls (a0 : Int) (a1 : Int) (r1 : Int) (r2 : Int) (w : World) (h : bits_Mul64.f a0 a1 = some (r1, r2)) :
  Calls Try.prog 58 #[.int .u64 a0, .int .u64 a1] w fun e w' => e = .returned (.tuple #[.int .u64 r1, .int .u64 r2]) ∧ Drawn0 w w' := by
 unfold bits_Mul64.f at h
 have H := h
 clear h
 simp only [Option.some.injEq, Prod.mk.injEq] at H
 obtain ⟨rfl, rfl⟩ := H
 go_enter Try.func58, Try.ntmps58
 go_wp2
 go_ret2
 exact ⟨rs, by repeat (first | exact Drawn0.refl _ | apply Drawn0.step)⟩

/-! ### bits_Mul: function 56 -/
def bits_Mul.f (a0 : Int) (a1 : Int) : Option (Int × Int) := (bits_Mul64.f a0 a1).bind fun bt142 => (some (bt142.1, bt142.2))
set_option maxHeartbeats 8000000 in
set_option maxRecDepth 100000 in
theorem bits_Mul.calls (a0 : Int) (a1 : Int) (r1 : Int) (r2 : Int) (w : World) (h : bits_Mul.f a0 a1 = some (r1, r2)) :
  Calls Try.prog 56 #[.int .u64 a0, .int .u64 a1] w fun e w' => e = .returned (.tuple #[.int .u64 r1, .int .u64 r2]) ∧ Drawn0 w w' := by
 unfold bits_Mul.f at h
 have H := h
 clear h
 replace H := Option.bind_eq_some_iff.mp H
 obtain ⟨⟨t142, t143⟩, A30, H⟩ := H
 (try dsimp only at H)
 have A3 := Aside0.mk A30
 clear A30
 simp only [Option.some.injEq, Prod.mk.injEq] at H
 obtain ⟨rfl, rfl⟩ := H
 go_enter Try.func56, Try.ntmps56
 go_wp2_with (first | ((with_reducible refine gate_callee (f := 58) rfl ?_); refine gl (some 25) Try.func58 #[.int .u64 a0, .int .u64 a1] ?_; (with_reducible refine (bits_Mul64.calls a0 a1 t142 t143 _ A3.out).mono ?_); rintro e w' ⟨rfl, ⟨nd, rfl⟩⟩; refine ⟨_, rfl, ?_⟩))
 go_ret2
 exact ⟨rs, by repeat (first | exact Drawn0.refl _ | apply Drawn0.step)⟩

/-! ### slices_Repeat_int_int: function 54 -/
theorem slices_Repeat_int_int_set {B t : Nat} (v : Value) : ∀ (m n r : Nat) (W : World), W.heap[B]? = some (.cells (List.replicate n v ++ List.replicate (m + r) (Value.int .i64 0)).toArray t (0, 0)) → (W.setCells B n (List.replicate m v)).heap[B]? = some (.cells (List.replicate (n + m) v ++ List.replicate r (Value.int .i64 0)).toArray t (0, 0))
  | 0, n, r, W, h => by simpa [World.setCells] using h
  | m + 1, n, r, W, h => by
    rw [List.replicate_succ, World.setCells]
    have h1 := blk_set h n v
    have e : (List.replicate n v ++ List.replicate (m + 1 + r) (Value.int .i64 0)).toArray.setIfInBounds n v = (List.replicate (n + 1) v ++ List.replicate (m + r) (Value.int .i64 0)).toArray := by
      rw [show m + 1 + r = (m + r) + 1 by omega, List.replicate_succ (n := m + r)]
      simp [List.replicate_succ', List.set_append]
    rw [e] at h1
    have := slices_Repeat_int_int_set v m (n + 1) r _ h1
    rwa [show n + (m + 1) = n + 1 + m by omega]
theorem slices_Repeat_int_int_below {b0 : Nat} {w0 : World} {B : Nat} (hB : b0 ≤ B) : ∀ (vs : List Value) (o : Nat) (W : World), Below b0 w0 W → Below b0 w0 (W.setCells B o vs)
  | [], _, _, h => h
  | v :: r, o, W, h => by
    rw [World.setCells]
    exact slices_Repeat_int_int_below hB r (o + 1) _ (h.setCell hB v)
theorem slices_Repeat_int_int_run {P : Program} {t e : TypeId} (hu : P.underlying t = some (.slice e)) (hs : (P.info? e).map (·.size) = some 1) (v : Int) (m n r d cd ls cs : Nat) (ty : TypeId) (ad : Addr) (W : World) (B e0 : Nat)
    (h : W.heap[B]? = some (.cells (List.replicate n (Value.int .i64 v) ++ List.replicate (m + r) (Value.int .i64 0)).toArray e0 (0, 0))) (hd : d = m + r) (hm : m = Nat.min ls d) (hsrc : ∀ j, j < m → W.cell? (ad.add j) = some (.int .i64 v)) :
    (Builtin.copy_ #[t, t] ty #[.slice (some ⟨B, n, none⟩) d cd, .slice (some ad) ls cs]).run P W = .ok (.int .i64 m) (W.setCells B n (List.replicate m (.int .i64 v))) := by
  have := run_copy_cells (P := P) W t t ty e B n d cd ad ls cs (List.replicate m (.int .i64 v)) hu hs (by simpa using hm)
    (fun j u hj => by
      have hj' := List.getElem?_eq_some_iff.1 hj
      obtain ⟨h1, h2⟩ := hj'
      simp at h1 h2
      rw [hsrc j h1, h2])
    (fun j hj => by
      simp at hj
      rw [blk_cell h]
      simp
      omega)
    (fun j hj => blk_frozen h _) (fun u hu => by rw [List.eq_of_mem_replicate hu]; rfl)
  simpa [goInt] using this
def slices_Repeat_int_int.f (l0 : List Int) (a1 : Int) : Option (List Int) := (bits_Mul.f (l0.length : Int) a1).bind fun q => if l0.length = 1 ∧ 1 ≤ a1 ∧ a1 < 1099511627776 ∧ q = (0, a1) then some (List.replicate a1.toNat (rd l0 0)) else none
theorem slices_Repeat_int_int_own (W : World) (base B c e : Nat) (v : Int) (hB : base ≤ B) (hc : c ≤ 9223372036854775807) (h : W.heap[B]? = some (.cells (List.replicate c (Value.int .i64 v)).toArray e (0, 0))) :
    Kd.R (Kd.int .i64) e W base (fun _ => True) (.slice (some ⟨B, 0, none⟩) c c) (List.replicate c v) := by
  refine ⟨fun _ _ => trivial, List.replicate c (.int .i64 v), ⟨by simp [Kd.int, Kd.scalar], .inr ⟨B, c, _, by simp, hB, h, ?_⟩⟩, by simp [Kd.int, Kd.scalar], ?_⟩
  · simp [maxLen, Kd.int, Kd.scalar]
    omega
  · intro j p hj
    have hj' := List.getElem?_eq_some_iff.1 hj
    obtain ⟨h1, h2⟩ := hj'
    simp at h1 h2
    simp [Kd.int, Kd.scalar, ← h2]
    rw [show min 1 (c - j) = 0 + 1 by omega]
    rfl
set_option maxHeartbeats 8000000 in
set_option maxRecDepth 100000 in
theorem slices_Repeat_int_int.calls (A0 : Option Addr) (c0 : Nat) (l0 : List Int) (a1 : Int) (r : List Int) (w : World) (hr0 : Kd.C (Kd.int .i64) w A0 l0.length l0) (hc0 : l0.length ≤ c0) (h : slices_Repeat_int_int.f l0 a1 = some r) :
  Calls Try.prog 54 #[.slice A0 l0.length c0, .int .i64 a1] w fun e w' => ∃ v0_ : Value, e = .returned (v0_) ∧ Kd.R (Kd.int .i64) 3 w' w.heap.size (fun _ => True) v0_ r ∧ Below w.heap.size w w' := by
 have HR0 := Aside0.mk hr0
 clear hr0
 have HB := Aside0.mk (Below.refl w.heap.size w)
 replace h := Option.bind_eq_some_iff.mp h
 obtain ⟨q, Aq0, h⟩ := h
 by_cases hcond : l0.length = 1 ∧ 1 ≤ a1 ∧ a1 < 1099511627776 ∧ q = (0, a1)
 ·rw [if_pos hcond] at h
  obtain ⟨hl, hlo, hhi, rfl⟩ := hcond
  obtain rfl := Option.some.inj h
  clear h
  rw [hl] at Aq0
  have Aq := Aside0.mk (show bits_Mul.f 1 a1 = some (0, a1) from Aq0)
  clear Aq0
  obtain ⟨ad, e1, hx0⟩ := Kd.at_int HR0.out 0 (by omega) (by omega)
  cases e1
  obtain ⟨v, hv⟩ : ∃ v, v = rd l0 0 := ⟨_, rfl⟩
  rw [← hv] at hx0 ⊢
  rw [hl] at hc0 ⊢
  obtain ⟨c, rfl⟩ : ∃ c : Nat, a1 = (c : Int) := ⟨a1.toNat, by omega⟩
  have mixed : Try.prog.follows Departure.mixedOrders = true := by kernel_rfl
  have hmk := print_make (P := Try.prog) 24 3 .i64 8 Try.underlying24 (by kernel_rfl) (by omega) c (by omega)
  have hz : (madeCells #[Value.int .i64 0] c) = (List.replicate 0 (Value.int .i64 v) ++ List.replicate (1 + (c - 1)) (Value.int .i64 0)).toArray := by
   apply Array.ext
   ·simp [madeCells]
    omega
   ·intro i h1 h2
    simp [madeCells, Nat.mod_one]
  have hlt := World.block_lt_of_cell? w _ hx0
  have HZ := Aside0.mk hz
  have HX := Aside0.mk hx0
  have HM := Aside0.mk hmk
  have HV := Aside0.mk hv
  have p1 : decide ((c : Int) < 0) = false := decide_eq_false (by omega)
  have p2 : decide ((9223372036854775807 : Int) < (c : Int)) = false := decide_eq_false (by omega)
  have p3 : IntKind.u64.wrap (c : Int) = c := by have e64 : IntKind.u64.bits = 64 := rfl; simp [IntKind.wrap, e64, IntKind.signed]; omega
  have HC := Aside0.mk hc0
  have HLO := Aside0.mk hlo
  have HHI := Aside0.mk hhi
  have HL := Aside0.mk hl
  clear hz hx0 hmk hv hlt hc0 hlo hhi hl
  go_enter Try.func54, Try.ntmps54
  have p4 : wrap64 (c : Int) = c := by have := HLO.out; have := HHI.out; unfold wrap64; omega
  have hblk : ∀ n1, ((w.drewN n1).alloc (.cells (madeCells #[Value.int .i64 0] c) 3)).heap[w.heap.size]? = some (.cells (List.replicate 0 (Value.int .i64 v) ++ List.replicate (1 + (c - 1)) (Value.int .i64 0)).toArray 3 (0, 0)) := fun n1 => (blk_new (w.drewN n1) _).trans (by rw [HZ.out])
  have hcp1 := fun n1 => slices_Repeat_int_int_run (P := Try.prog) Try.underlying24 (by kernel_rfl) v 1 0 (c - 1) c c 1 c0 3 ad ((w.drewN n1).alloc (.cells (madeCells #[Value.int .i64 0] c) 3)) w.heap.size 3 (hblk n1) (by have := HLO.out; omega) (by have := HLO.out; simp only [Nat.min_def]; split <;> omega) (fun j hj => by obtain rfl : j = 0 := (by omega); exact ((below_alloc (pw_below_drewN HB.out _) _).cell (World.block_lt_of_cell? w _ HX.out)).trans HX.out)
  have HB1 := fun n1 => Aside0.mk (slices_Repeat_int_int_below (b0 := w.heap.size) (w0 := w) (Nat.le_refl _) (List.replicate 1 (Value.int .i64 v)) 0 _ (below_alloc (pw_below_drewN HB.out n1) (.cells (madeCells #[Value.int .i64 0] c) 3)))
  have HS1 := fun n1 => Aside0.mk (slices_Repeat_int_int_set (Value.int .i64 v) 1 0 (c - 1) _ (hblk n1))
  have HCP := Aside0.mk hcp1
  have HBK := Aside0.mk hblk
  clear hcp1 hblk
  go_wp2_with (first | (go_at_call 56; (with_reducible refine (bits_Mul.calls 1 c 0 c _ Aq.out).mono ?_); rintro e w' ⟨rfl, ⟨n1, rfl⟩⟩) | simp only [p4, HM.out] | simp only [HCP.out])
  go_loopg [8] c (fun kq v8 w' => ∃ n : Nat, v8 = .int .i64 (n : Int) ∧ Aside0 (1 ≤ n ∧ n ≤ c) ∧ Aside0 (c - n ≤ kq) ∧ Aside0 (w'.heap[w.heap.size]? = some (.cells (List.replicate n (Value.int .i64 v) ++ List.replicate (c - n) (Value.int .i64 0)).toArray 3 (0, 0))) ∧ Aside0 (Below w.heap.size w w'))
  case atStart => exact ⟨1, rfl, ⟨by have := HLO.out; omega⟩, ⟨by omega⟩, ⟨(HS1 _).out⟩, HB1 _⟩
  case round =>
   clear HB HB1 HS1 HCP HBK
   obtain ⟨n, rfl, HN, HK1, HBK, HB⟩ := hrel
   by_cases c4 : (n : Int) < (c : Int)
   ·have c4b0 : decide ((n : Int) < (c : Int)) = true := decide_eq_true c4
    cases gk with
    | zero => exact absurd HK1.out (by omega)
    | succ k1 =>
     obtain ⟨m, hm⟩ : ∃ m, m = Nat.min n (c - n) := ⟨_, rfl⟩
     have hm1 : 1 ≤ m ∧ n + m ≤ c := by have := HN.out; simp only [hm, Nat.min_def]; split <;> omega
     have hcp2 := fun n1 => slices_Repeat_int_int_run (P := Try.prog) Try.underlying24 (by kernel_rfl) v m n (c - n - m) (c - n) (c - n) n c 3 ⟨w.heap.size, 0, none⟩ (World.drewN ‹World› n1) w.heap.size 3 (by have := HBK.out; rw [show m + (c - n - m) = c - n by omega]; exact this) (by omega) hm (fun j hj => by rw [add_plain]; have hjn : j < n := (by have : m ≤ n := hm ▸ Nat.min_le_left _ _; omega); refine (blk_cell (w := World.drewN ‹World› n1) HBK.out j).trans ?_; simp [List.getElem?_append, hjn])
     have q1 : ((n : Int)).toNat = n := by omega
     have q2 : (n : Int) ≤ (c : Int) := by omega
     have q3 : ¬ (c = n) := by omega
     have q4 : (0 : Int) ≤ (n : Int) := by omega
     have q5 : IntKind.i64.wrap ((n : Int) + (m : Int)) = ((n + m : Nat) : Int) := by have := HHI.out; have e64 : IntKind.i64.bits = 64 := rfl; simp [IntKind.wrap, e64, IntKind.signed]; omega
     have HB2 := fun n1 => Aside0.mk (slices_Repeat_int_int_below (b0 := w.heap.size) (w0 := w) (Nat.le_refl _) (List.replicate m (Value.int .i64 v)) n _ (pw_below_drewN HB.out n1))
     have HS2 := fun n1 => Aside0.mk (slices_Repeat_int_int_set (B := w.heap.size) (t := 3) (Value.int .i64 v) m n (c - n - m) (World.drewN ‹World› n1) (by have := HBK.out; rw [show m + (c - n - m) = c - n by omega]; exact this))
     have HCP2 := Aside0.mk hcp2
     have HM1 := Aside0.mk hm1
     clear hcp2 hm hm1 c4
     go_wp2
     go_region_law_o (refine step_copy_runI rfl _ _ 24 24 rfl _ _ (by simp [Act.eval, Act.put]) (by simp [Act.eval, Act.put]) (HCP2.out _) ?_)
     go_wp2
     go_roundg k1
     case measure => have := HK1.out; have := HM1.out; omega
     case rel => exact ⟨n + m, (by first | rfl | exact congrArg _ q5), ⟨by have := HN.out; have := HM1.out; omega⟩, ⟨by have := HK1.out; have := HM1.out; omega⟩, ⟨by have := (HS2 1).out; rw [show c - n - m = c - (n + m) by omega] at this; exact this⟩, HB2 1⟩
   ·have c4b0 : decide ((n : Int) < (c : Int)) = false := decide_eq_false c4
    obtain rfl : n = c := by have := HN.out; omega
    have HR := fun n1 => Aside0.mk (slices_Repeat_int_int_own (World.drewN ‹World› n1) w.heap.size w.heap.size n 3 v (Nat.le_refl _) (by have := HHI.out; omega) (by have := HBK.out; simpa using this))
    clear c4
    go_wp2
    go_ret
    exact ⟨_, rfl, (HR 0).out, HB.out⟩
 ·rw [if_neg hcond] at h
  exact absurd h (by simp)

end Go.Proofs.Ytafcfhlgenljgaa.PFnExactTimeAllHear
