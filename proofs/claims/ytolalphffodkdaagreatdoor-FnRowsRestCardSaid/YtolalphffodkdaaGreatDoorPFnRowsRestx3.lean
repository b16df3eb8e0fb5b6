-- Laid by xprint, a program of this session that runs over the kit's print.
import Derived.Test.YtolalphffodkdaaGreatDoorPFnRowsRestx0
import Derived.Test.YtolalphffodkdaaGreatDoorPFnRowsRestx1
import Derived.Test.YtolalphffodkdaaGreatDoorPFnRowsRestx2
namespace Go.Proofs.YtolalphffodkdaaGreatDoor.PFnRowsRest
open Go.RowKit Go.Proofs.YtolalphffodkdaaGreatDoorW.PrintWords Go.Proofs.YtolalphffodkdaaGreatDoorW.PrintLast Go.Proofs.YtolalphffodkdaaGreatDoorW.PrintMore Go.Proofs.YtolalphffodkdaaGreatDoor.Sq
attribute [local go_sem] max2_int min2_int max_two min_two max_three min_three max_four min_four   -- for this text's walks alone
set_option linter.unusedVariables false
set_option linter.unusedSimpArgs false

/-! ### impl_facing: function 47 -/
def impl_facing.l0 : Nat → ByteArray → List Int → Int → Int → Option (List Int)
  | 0, _, _, _, _ => none
  | k + 1, x0, x3, x8, x9 => if x9 < x8 then (if 0 ≤ x9 then (if x9 < (x0.size : Int) then (if (bt x0 x9) = 62 then (if 0 ≤ (wrap64 (x9 + 1)) then (if (wrap64 (x9 + 1)) < (x0.size : Int) then (if (bt x0 (wrap64 (x9 + 1))) = 60 then (if x3.length < 17592186044416 then (impl_facing.l0 k x0 (x3 ++ [x9]) x8 (wrap64 (x9 + 1))) else (none)) else (impl_facing.l0 k x0 x3 x8 (wrap64 (x9 + 1)))) else (none)) else (none)) else (impl_facing.l0 k x0 x3 x8 (wrap64 (x9 + 1)))) else (none)) else (none)) else (some x3)
def impl_facing.f (k : Nat) (a0 : ByteArray) : Option (List Int) := impl_facing.l0 k a0 (([] : List Int)) (wrap64 ((a0.size : Int) - 1)) 0
theorem impl_facing.mono_l : ∀ k, (∀ y0 y1 y2 y3, LeO (impl_facing.l0 k y0 y1 y2 y3) (impl_facing.l0 (k + 1) y0 y1 y2 y3))
  | 0 => fun _ _ _ _ r h => by simp [impl_facing.l0] at h
  | k + 1 => by
    have ih0 := impl_facing.mono_l k
    · intro y0 y1 y2 y3
      unfold impl_facing.l0
      repeat' first
      | (with_reducible exact ih0 _ _ _ _)
      | (with_reducible exact LeO.refl _)
      | (with_reducible exact LeO.none _)
      | (with_reducible refine LeO.ite ?_ ?_)
      | (with_reducible refine LeO.bind ?_ (fun _ => ?_))
      | exact ih0 _ _ _ _
      | exact LeO.none _
      | refine LeO.ite ?_ ?_
      | refine LeO.bind ?_ (fun _ => ?_)
theorem impl_facing.mono : ∀ a0 k, LeO (impl_facing.f k a0) (impl_facing.f (k + 1) a0) := by
  intro a0 k
  have ih0 := impl_facing.mono_l k
  unfold impl_facing.f
  repeat' first
      | (with_reducible exact ih0 _ _ _ _)
      | (with_reducible exact LeO.refl _)
      | (with_reducible exact LeO.none _)
      | (with_reducible refine LeO.ite ?_ ?_)
      | (with_reducible refine LeO.bind ?_ (fun _ => ?_))
      | exact ih0 _ _ _ _
      | exact LeO.none _
      | refine LeO.ite ?_ ?_
      | refine LeO.bind ?_ (fun _ => ?_)
set_option maxHeartbeats 8000000 in
set_option maxRecDepth 100000 in
theorem impl_facing.calls (k : Nat) (a0 : ByteArray) (r : List Int) (w : World) (h : impl_facing.f k a0 = some r) :
  Calls Tryz.prog 47 #[.string a0] w fun e w' => ∃ v0_ : Value, e = .returned (v0_) ∧ Kd.R (Kd.int .i64) 3 w' w.heap.size (fun _ => True) v0_ r ∧ Below w.heap.size w w' := by
 have HB := Aside0.mk (Below.refl w.heap.size w)
 unfold impl_facing.f at h
 have H := h
 clear h
 obtain ⟨y168, hy168⟩ : ∃ y_ : List Int, y_ = (([] : List Int)) := ⟨_, rfl⟩
 replace H : (impl_facing.l0 k a0 y168 (wrap64 ((a0.size : Int) - 1)) 0) = some r := by first | (rw [hy168]; with_reducible exact H) | (have H2_ := (Option.bind_some _ _).symm.trans H; rw [hy168]; with_reducible exact H2_) | (have H2_ := (Option.bind_some _ _).symm.trans H; with_reducible exact H2_) | with_reducible exact H | (rw [hy168]; exact H) | exact H
 have Ny168 := Aside0.mk hy168
 clear hy168
 have H' := Aside0.mk H
 clear H
 go_enter Tryz.func47, Tryz.ntmps47
 go_wp2_with (first | ((with_reducible refine gate_dst (N := 5) rfl ?_); refine Kd.R_lit (Kd.int .i64) _ 3 ?hg (N := 5) ?hd (xs := ([] : List Int)) (inner := []) (ok := fun _ => True) (okp := fun _ => True) ?hr ?hp (fun _ hk => hk) trivial (Below.refl _ _) (Nat.le_refl _) (by simp) ?_; (case hd => rfl); (case hg => rfl); (case hr => first | (go_simp; done) | (go_simp; rfl)); (case hp => exact (Reps.none _ _)); intro v169 w2 ho3 hb hg_ hnew_; clear hg_ hnew_; (first | rw [← Ny168.out] at ho3 | (simp only [Int.reduceToNat] at ho3; rw [← Ny168.out] at ho3)); have HO170 := Aside0.mk (Kd.R_lower ho3 (below_size bw)); replace HB := bs hb; clear hb ho3))
 go_loopg [3, 9] k (fun kq v3 v9 w' => ∃ (x3_1 : List Int) (x9_1 : Int), v9 = .int .i64 x9_1 ∧ Aside0 (impl_facing.l0 kq a0 x3_1 (wrap64 ((a0.size : Int) - 1)) x9_1 = some r) ∧ Aside0 (kq ≤ k) ∧ Aside0 (Kd.R (Kd.int .i64) 3 w' w.heap.size (fun _ => True) v3 x3_1) ∧ Aside0 (Below w.heap.size w w'))
 case atStart => exact ⟨(y168), (0), (rs), H', ⟨Nat.le_refl _⟩, ⟨pr HO170⟩, ⟨bw⟩⟩
 case round =>
  clear H'
  try clear p2
  obtain ⟨x3_1, x9_1, rfl, HA, HK1, HO_3, HB⟩ := hrel
  cases gk with
  | zero => exact absurd HA.out (by simp [impl_facing.l0])
  | succ k1 =>
   have H := HA.out
   clear HA
   simp only [impl_facing.l0] at H
   by_cases c4 : x9_1 < (wrap64 ((a0.size : Int) - 1))
   ·rw [if_pos c4] at H
    have c4b0 : decide (x9_1 < (wrap64 ((a0.size : Int) - 1))) = true := decide_eq_true c4
    clear c4
    by_cases c5 : 0 ≤ x9_1
    ·rw [if_pos c5] at H
     have c5b0 : decide (0 ≤ x9_1) = true := decide_eq_true c5
     clear c5
     by_cases c6 : x9_1 < (a0.size : Int)
     ·rw [if_pos c6] at H
      have c6b0 : decide (x9_1 < (a0.size : Int)) = true := decide_eq_true c6
      clear c6
      by_cases c8 : (bt a0 x9_1) = 62
      ·rw [if_pos c8] at H
       have c8b0 : ((bt a0 x9_1) == 62) = true := beq_iff_eq.mpr c8
       have c8b1 : ((bt a0 x9_1) != 62) = false := bne_eq_false_iff_eq.mpr c8
       clear c8
       obtain ⟨ji9, hji9⟩ : ∃ j_ : Int, (wrap64 (x9_1 + 1)) = j_ := ⟨_, rfl⟩
       replace H : (if 0 ≤ (ji9) then (if (ji9) < (a0.size : Int) then (if (bt a0 (ji9)) = 60 then (if x3_1.length < 17592186044416 then (impl_facing.l0 k1 a0 (x3_1 ++ [x9_1]) (wrap64 ((a0.size : Int) - 1)) ji9) else (none)) else (impl_facing.l0 k1 a0 x3_1 (wrap64 ((a0.size : Int) - 1)) ji9)) else (none)) else (none)) = some r := by first | (rw [hji9] at H; exact H) | (simp only [hji9] at H ⊢; exact H)
       have hji9w : (IntKind.i64.wrap (x9_1 + 1)) = ji9 := (i64_w _).trans hji9
       by_cases c10 : 0 ≤ (ji9)
       ·rw [if_pos c10] at H
        have c10b0 : decide (0 ≤ (ji9)) = true := decide_eq_true c10
        clear c10
        by_cases c11 : (ji9) < (a0.size : Int)
        ·rw [if_pos c11] at H
         have c11b0 : decide ((ji9) < (a0.size : Int)) = true := decide_eq_true c11
         clear c11
         by_cases c13 : (bt a0 (ji9)) = 60
         ·rw [if_pos c13] at H
          have c13b0 : ((bt a0 (ji9)) == 60) = true := beq_iff_eq.mpr c13
          have c13b1 : ((bt a0 (ji9)) != 60) = false := bne_eq_false_iff_eq.mpr c13
          clear c13
          by_cases c14 : x3_1.length < 17592186044416
          ·rw [if_pos c14] at H
           have LMc14 := Aside0.mk c14
           clear c14
           obtain ⟨y171, hy171⟩ : ∃ y_ : List Int, y_ = (x3_1 ++ [x9_1]) := ⟨_, rfl⟩
           replace H : (impl_facing.l0 k1 a0 y171 (wrap64 ((a0.size : Int) - 1)) ji9) = some r := by first | (rw [hy171]; with_reducible exact H) | (have H2_ := (Option.bind_some _ _).symm.trans H; rw [hy171]; with_reducible exact H2_) | (have H2_ := (Option.bind_some _ _).symm.trans H; with_reducible exact H2_) | with_reducible exact H | (rw [hy171]; exact H) | exact H
           have Ny171 := Aside0.mk hy171
           clear hy171
           have H' := Aside0.mk H
           clear H
           have p7 : 0 ≤ (x9_1 : Int) := of_decide_eq_true (by first | (with_reducible assumption) | assumption)
           have q7 : x9_1 < (a0.size : Int) := of_decide_eq_true (by first | (with_reducible assumption) | assumption)
           have hx7 := bt_at a0 x9_1
           replace p7 := eq_true p7
           replace q7 := eq_true q7
           have p12 : 0 ≤ ((ji9) : Int) := of_decide_eq_true (by first | (with_reducible assumption) | assumption)
           have q12 : (ji9) < (a0.size : Int) := of_decide_eq_true (by first | (with_reducible assumption) | assumption)
           have hx12 := bt_at a0 (ji9)
           replace p12 := eq_true p12
           replace q12 := eq_true q12
           go_wp2_with (first | ((with_reducible refine gate_builtin (b := .append) (xs := #[.tmp 23, .tmp 25]) rfl ?_); at_builtin; refine Kd.R_append (Kd.int .i64) (w0 := w) w.heap.size rfl (.tmp 23) (.tmp 25) 29 3 (.int .i64 0) 8 rfl Tryz.underlying29 info3 rfl (by decide) (by omega) u3 x3_1 x9_1 [.int .i64 x9_1] (fun _ => True) (fun _ => False) rfl rfl ?aP (fun _ hk => hk.elim) ?aF ?aO ?aB ?aS ?aL ?_; (case aP => exact rfl); (case aB => exact bw); (case aF => exact (fun _ _ => trivial)); (case aO => exact (pr HO_3)); (case aS => exact (below_size bw)); (case aL => have := LMc14.out; omega); intro v172 w15 ho hb hg hat; rw [← Ny171.out] at ho; have n0_ := Aside0.mk (hb); have n1_ := Aside0.mk (ho); clear HB; clear HO_3; have HB := n0_; have HO173 := n1_; clear n0_ n1_; clear ho hb hg hat))
           go_roundg k1
           case measure => have := HK1.out; omega
           case rel => exact ⟨(y171), (ji9), (by first | rfl | (simp; done) | (simp only [← hji9] <;> (first | rfl | simp)) | (simp [*]; done)), H', ⟨by have := HK1.out; omega⟩, ⟨pr HO173⟩, ⟨bw⟩⟩
          ·rw [if_neg c14] at H
           exact absurd H (by simp)
         ·rw [if_neg c13] at H
          have c13b0 : ((bt a0 (ji9)) == 60) = false := beq_eq_false_iff_ne.mpr c13
          have c13b1 : ((bt a0 (ji9)) != 60) = true := bne_iff_ne.mpr c13
          have H' := Aside0.mk H
          clear H
          have p7 : 0 ≤ (x9_1 : Int) := of_decide_eq_true (by first | (with_reducible assumption) | assumption)
          have q7 : x9_1 < (a0.size : Int) := of_decide_eq_true (by first | (with_reducible assumption) | assumption)
          have hx7 := bt_at a0 x9_1
          replace p7 := eq_true p7
          replace q7 := eq_true q7
          have p12 : 0 ≤ ((ji9) : Int) := of_decide_eq_true (by first | (with_reducible assumption) | assumption)
          have q12 : (ji9) < (a0.size : Int) := of_decide_eq_true (by first | (with_reducible assumption) | assumption)
          have hx12 := bt_at a0 (ji9)
          replace p12 := eq_true p12
          replace q12 := eq_true q12
          go_wp2
          go_roundg k1
          case measure => have := HK1.out; omega
          case rel => exact ⟨(x3_1), (ji9), (by first | rfl | (simp; done) | (simp only [← hji9] <;> (first | rfl | simp)) | (simp [*]; done)), H', ⟨by have := HK1.out; omega⟩, ⟨pr HO_3⟩, ⟨bw⟩⟩
        ·rw [if_neg c11] at H
         exact absurd H (by simp)
       ·rw [if_neg c10] at H
        exact absurd H (by simp)
      ·rw [if_neg c8] at H
       have c8b0 : ((bt a0 x9_1) == 62) = false := beq_eq_false_iff_ne.mpr c8
       have c8b1 : ((bt a0 x9_1) != 62) = true := bne_iff_ne.mpr c8
       have H' := Aside0.mk H
       clear H
       have p7 : 0 ≤ (x9_1 : Int) := of_decide_eq_true (by first | (with_reducible assumption) | assumption)
       have q7 : x9_1 < (a0.size : Int) := of_decide_eq_true (by first | (with_reducible assumption) | assumption)
       have hx7 := bt_at a0 x9_1
       replace p7 := eq_true p7
       replace q7 := eq_true q7
       go_wp2
       go_roundg k1
       case measure => have := HK1.out; omega
       case rel => exact ⟨(x3_1), (wrap64 (x9_1 + 1)), (rs), H', ⟨by have := HK1.out; omega⟩, ⟨pr HO_3⟩, ⟨bw⟩⟩
     ·rw [if_neg c6] at H
      exact absurd H (by simp)
    ·rw [if_neg c5] at H
     exact absurd H (by simp)
   ·rw [if_neg c4] at H
    have c4b0 : decide (x9_1 < (wrap64 ((a0.size : Int) - 1))) = false := decide_eq_false c4
    clear c4
    obtain rfl := Option.some.inj H
    go_wp2
    go_ret
    exact ⟨_, rs, pr HO_3, bw⟩

/-! ### impl_CountTurns: function 10 -/
def impl_CountTurns_clo.f (k : Nat) (x : ByteArray) (n : Int) : Option Int := (impl_facing.f k x).bind fun ps => some (wrap64 (n + (ps.length : Int)))
def impl_CountTurns.l0 : Nat → ByteArray → Int → Option Int
  | 0, _, _ => none
  | k + 1, x, n => (impl_isAtRest.f x).bind fun t => if t = true then some n else (impl_CountTurns_clo.f k x n).bind fun m => (impl_tick.f x).bind fun y => impl_CountTurns.l0 k y m
def impl_CountTurns.f (k : Nat) (a0 : ByteArray) : Option (Int × Bool) := (impl_isRow.f a0).bind fun t => if t = true then (impl_CountTurns.l0 k a0 0).bind fun y => some (y, true) else some (0, false)
theorem impl_CountTurns_clo.mono : ∀ a0 a1 k, LeO (impl_CountTurns_clo.f k a0 a1) (impl_CountTurns_clo.f (k + 1) a0 a1) := by
  intro a0 a1 k
  unfold impl_CountTurns_clo.f
  exact LeO.bind (impl_facing.mono a0 k) (fun _ => LeO.refl _)
theorem impl_CountTurns.mono_l : ∀ k, (∀ y0 y1, LeO (impl_CountTurns.l0 k y0 y1) (impl_CountTurns.l0 (k + 1) y0 y1))
  | 0 => fun _ _ r h => by simp [impl_CountTurns.l0] at h
  | k + 1 => by
    have ih0 := impl_CountTurns.mono_l k
    · intro y0 y1
      unfold impl_CountTurns.l0
      repeat' first
      | (with_reducible exact ih0 _ _)
      | (with_reducible exact impl_CountTurns_clo.mono _ _ _)
      | (with_reducible exact LeO.refl _)
      | (with_reducible exact LeO.none _)
      | (with_reducible refine LeO.ite ?_ ?_)
      | (with_reducible refine LeO.bind ?_ (fun _ => ?_))
theorem impl_CountTurns.mono : ∀ a0 k, LeO (impl_CountTurns.f k a0) (impl_CountTurns.f (k + 1) a0) := by
  intro a0 k
  unfold impl_CountTurns.f
  exact LeO.bind (LeO.refl _) (fun _ => LeO.ite (LeO.bind (impl_CountTurns.mono_l k _ _) (fun _ => LeO.refl _)) (LeO.refl _))
theorem impl_CountTurns_hist : ∀ (k : Nat) (x : ByteArray) (n r : Int), impl_CountTurns.l0 k x n = some r → ∃ y, impl_history.l0 k x = some y
  | 0, _, _, _, h => by simp [impl_CountTurns.l0] at h
  | k + 1, x, n, r, h => by
    simp only [impl_CountTurns.l0] at h
    obtain ⟨t, h1, h⟩ := Option.bind_eq_some_iff.mp h
    simp only [impl_history.l0, h1, Option.bind_some]
    cases t with
    | true => exact ⟨x, rfl⟩
    | false =>
      rw [if_neg (by decide)] at h
      obtain ⟨m, _, h⟩ := Option.bind_eq_some_iff.mp h
      obtain ⟨y, h2, h⟩ := Option.bind_eq_some_iff.mp h
      obtain ⟨z, hz⟩ := impl_CountTurns_hist k y _ r h
      exact ⟨z, by rw [if_neg (by decide), h2]; exact hz⟩
set_option maxHeartbeats 8000000 in
set_option maxRecDepth 100000 in
theorem impl_CountTurns_clo.calls (k : Nat) (g : Nat) (n r : Int) (x : ByteArray) (w0 w : World) (hwg : w0.heap.size ≤ g) (hB : Below w0.heap.size w0 w) (hb : w.heap[g]? = some (.cells #[.int .i64 n] 3 (0, 0))) (h : impl_CountTurns_clo.f k x n = some r) :
  Calls Tryz.prog 46 (#[.string x] ++ #[.pointer (some ⟨g, 0, none⟩)]) w fun e w' => e = .returned (.tuple #[]) ∧ w'.heap[g]? = some (.cells #[.int .i64 r] 3 (0, 0)) ∧ Below w0.heap.size w0 w' := by
 show Calls Tryz.prog 46 #[.string x, .pointer (some ⟨g, 0, none⟩)] w _
 unfold impl_CountTurns_clo.f at h
 obtain ⟨ps, h1, h2⟩ := Option.bind_eq_some_iff.mp h
 obtain rfl := Option.some.inj h2
 have A1 := Aside0.mk h1
 have HW := Aside0.mk hwg
 have HB := Aside0.mk hB
 have HG := Aside0.mk hb
 clear h h1 h2 hwg hB hb
 have mixed : Tryz.prog.follows Departure.mixedOrders = true := by kernel_rfl
 have hc : w.cell? ⟨g, 0, none⟩ = some (.int .i64 n) := (blk_cell HG.out 0).trans rfl
 go_enter Tryz.func46, Tryz.ntmps46
 go_wp2
 go_region_with (go_at_call 47; (with_reducible refine (impl_facing.calls k x ps _ A1.out).mono ?_); rintro e w3 ⟨v1, rfl, ho0, hb⟩; obtain ⟨Ao, co, eo⟩ := Kd.R_slice ho0; subst eo; have HB1 := Aside0.mk (below_step (below_drew HB.out) hb); have HG1 := Aside0.mk (blk_below (blk_drew HG.out) hb); clear hb ho0 HB HG; have HB := HB1; have HG := HG1; clear HB1 HG1; have e1 : w3.cell? ⟨g, 0, none⟩ = some (.int .i64 n) := (blk_cell HG.out 0).trans rfl; have f1 : w3.frozen? ⟨g, 0, none⟩ = false := blk_frozen HG.out 0)
 all_goals go_wp2
 all_goals go_end0
 all_goals exact ⟨rfl, blk_put HG.out 0 _ (by rw [i64_w]; rfl), below_set HB.out HW.out⟩
set_option maxHeartbeats 8000000 in
set_option maxRecDepth 100000 in
theorem impl_CountTurns.calls (k : Nat) (a0 : ByteArray) (r1 : Int) (r2 : Bool) (w : World) (hm : Dr.Tab w) (h : impl_CountTurns.f k a0 = some (r1, r2)) :
  Calls Tryz.prog 10 #[.string a0] w fun e w' => e = .returned (.tuple #[.int .i64 r1, .bool r2]) ∧ Below w.heap.size w w' := by
 unfold impl_CountTurns.f at h
 obtain ⟨t, h1, h⟩ := Option.bind_eq_some_iff.mp h
 have A1 := Aside0.mk h1
 have HMM := Aside0.mk hm
 have HB := Aside0.mk (Below.refl w.heap.size w)
 clear h1 hm
 cases t with
 | false =>
  rw [if_neg (by decide)] at h
  simp only [Option.some.injEq, Prod.mk.injEq] at h
  obtain ⟨rfl, rfl⟩ := h
  go_enter Tryz.func10, Tryz.ntmps10
  go_wp2_with ((go_at_call 40; (with_reducible refine (impl_isRow.calls a0 false _ A1.out).mono ?_); rintro e w3 ⟨rfl, hb⟩; replace HB := Aside0.mk (below_step HB.out hb); clear hb))
  go_ret2
  exact ⟨rfl, HB.out⟩
 | true =>
  rw [if_pos rfl] at h
  obtain ⟨o, h2, h⟩ := Option.bind_eq_some_iff.mp h
  simp only [Option.some.injEq, Prod.mk.injEq] at h
  obtain ⟨rfl, rfl⟩ := h
  obtain ⟨y, hy⟩ := impl_CountTurns_hist k a0 _ o h2
  have H := Aside0.mk h2
  have HY := Aside0.mk hy
  clear h2 hy
  have hW : ∀ w3 : World, Below w.heap.size w w3 → ((fun (x : ByteArray) (w' : World) => ∃ (kq : Nat) (n : Int), impl_CountTurns.l0 kq x n = some o ∧ w'.heap[w3.heap.size]? = some (.cells #[.int .i64 n] 3 (0, 0)) ∧ Below w.heap.size w w') a0 (w3.alloc (.cells #[.int .i64 0] 3))) := fun w3 hb => ⟨k, 0, H.out, blk_new w3 _, below_alloc hb _⟩
  have hstep : ∀ w3 : World, w.heap.size ≤ w3.heap.size → ∀ (x y : ByteArray) (w' : World), (∃ (kq : Nat) (n : Int), impl_CountTurns.l0 kq x n = some o ∧ w'.heap[w3.heap.size]? = some (.cells #[.int .i64 n] 3 (0, 0)) ∧ Below w.heap.size w w') → impl_isAtRest.f x = some false → impl_tick.f x = some y →
    Calls Tryz.prog 46 (#[.string x] ++ #[.pointer (some ⟨w3.heap.size, 0, none⟩)]) w' fun e w'' => e = .returned (.tuple #[]) ∧ ((fun (x : ByteArray) (w' : World) => ∃ (kq : Nat) (n : Int), impl_CountTurns.l0 kq x n = some o ∧ w'.heap[w3.heap.size]? = some (.cells #[.int .i64 n] 3 (0, 0)) ∧ Below w.heap.size w w') y w'') := by
   intro w3 hle x y w1 ⟨kq, n, h1, h2, h3⟩ hr ht
   match kq, h1 with
   | 0, h1 => simp [impl_CountTurns.l0] at h1
   | kq + 1, h1 =>
    simp only [impl_CountTurns.l0, hr, Option.bind_some] at h1
    rw [if_neg (by decide)] at h1
    obtain ⟨m, hc, h1⟩ := Option.bind_eq_some_iff.mp h1
    rw [ht, Option.bind_some] at h1
    refine (impl_CountTurns_clo.calls kq w3.heap.size n m x w w1 hle h3 h2 hc).mono ?_
    rintro e w2 ⟨rfl, k1, k2⟩
    exact ⟨rfl, kq, m, h1, k1, k2⟩
  have HS := Aside0.mk hstep
  have HW := Aside0.mk hW
  clear hstep hW
  go_enter Tryz.func10, Tryz.ntmps10
  go_wp2_with (first | (go_at_call 40; (with_reducible refine (impl_isRow.calls a0 true _ A1.out).mono ?_); rintro e w3 ⟨rfl, hb⟩; replace HB := Aside0.mk (below_step HB.out hb); clear hb) | (go_at_call 44; refine (impl_history.calls k 46 Tryz.f46 #[.pointer (some ⟨w3.heap.size, 0, none⟩)] Tryz.func46 (by kernel_rfl) (by kernel_rfl)
  (fun x w' => ∃ (kq : Nat) (n : Int), impl_CountTurns.l0 kq x n = some o ∧ w'.heap[w3.heap.size]? = some (.cells #[.int .i64 n] 3 (0, 0)) ∧ Below w.heap.size w w')
  (fun x w' ⟨_, _, _, _, hB⟩ => HMM.out.below hB) (fun x w1 w2 ⟨kq, n, h1, h2, h3⟩ hb => ⟨kq, n, h1, blk_below h2 hb, below_step h3 hb⟩) (HS.out w3 HB.out.size) a0 y _ (HW.out w3 HB.out) HY.out).mono ?_; rintro e w' ⟨rfl, ⟨kq, n, h1, h2, h3⟩, hr⟩; have hcg : w'.cell? ⟨w3.heap.size, 0, none⟩ = some (.int .i64 n) := (blk_cell h2 0).trans rfl))
  have ho : n = o := by
   match kq, h1 with
   | 0, h1 => simp [impl_CountTurns.l0] at h1
   | kq + 1, h1 =>
    simp only [impl_CountTurns.l0, hr, Option.bind_some, if_true] at h1
    exact Option.some.inj h1
  subst ho
  go_ret2
  exact ⟨rfl, h3⟩

/-! ### spec_CountTurns: function 11 -/
def spec_CountTurns.l0 : Nat → ByteArray → Int → Option (Int × Bool)
  | 0, _, _ => none
  | k + 1, x0, x4 => (spec_rwPairs.f k x0).bind fun t175 => (if (t175.length : Int) > 0 then ((spec_rwPairs.f k x0).bind fun t178 => ((spec_rwTick.f k x0).bind fun t181 => (spec_CountTurns.l0 k t181 (wrap64 (x4 + (t178.length : Int)))))) else (some (x4, true)))
def spec_CountTurns.f (k : Nat) (a0 : ByteArray) : Option (Int × Bool) := (spec_rwGood.f k a0).bind fun t174 => (if t174 = true then (spec_CountTurns.l0 k a0 0) else (some (0, false)))
theorem spec_CountTurns.mono_l : ∀ k, (∀ y0 y1, LeO (spec_CountTurns.l0 k y0 y1) (spec_CountTurns.l0 (k + 1) y0 y1))
  | 0 => fun _ _ r h => by simp [spec_CountTurns.l0] at h
  | k + 1 => by
    have ih0 := spec_CountTurns.mono_l k
    · intro y0 y1
      unfold spec_CountTurns.l0
      repeat' first
      | (with_reducible exact ih0 _ _)
      | (with_reducible exact spec_rwGood.mono _ _)
      | (with_reducible exact spec_rwPairs.mono _ _)
      | (with_reducible exact spec_rwTick.mono _ _)
      | (with_reducible exact LeO.refl _)
      | (with_reducible exact LeO.none _)
      | (with_reducible refine LeO.ite ?_ ?_)
      | (with_reducible refine LeO.bind ?_ (fun _ => ?_))
      | exact ih0 _ _
      | exact spec_rwGood.mono _ _
      | exact spec_rwPairs.mono _ _
      | exact spec_rwTick.mono _ _
      | exact LeO.none _
      | refine LeO.ite ?_ ?_
      | refine LeO.bind ?_ (fun _ => ?_)
theorem spec_CountTurns.mono : ∀ a0 k, LeO (spec_CountTurns.f k a0) (spec_CountTurns.f (k + 1) a0) := by
  intro a0 k
  have ih0 := spec_CountTurns.mono_l k
  unfold spec_CountTurns.f
  repeat' first
      | (with_reducible exact ih0 _ _)
      | (with_reducible exact spec_rwGood.mono _ _)
      | (with_reducible exact spec_rwPairs.mono _ _)
      | (with_reducible exact spec_rwTick.mono _ _)
      | (with_reducible exact LeO.refl _)
      | (with_reducible exact LeO.none _)
      | (with_reducible refine LeO.ite ?_ ?_)
      | (with_reducible refine LeO.bind ?_ (fun _ => ?_))
      | exact ih0 _ _
      | exact spec_rwGood.mono _ _
      | exact spec_rwPairs.mono _ _
      | exact spec_rwTick.mono _ _
      | exact LeO.none _
      | refine LeO.ite ?_ ?_
      | refine LeO.bind ?_ (fun _ => ?_)
set_option maxHeartbeats 8000000 in
set_option maxRecDepth 100000 in
theorem spec_CountTurns.calls (k : Nat) (a0 : ByteArray) (r1 : Int) (r2 : Bool) (w : World) (h : spec_CountTurns.f k a0 = some (r1, r2)) :
  Calls Tryz.prog 11 #[.string a0] w fun e w' => e = .returned (.tuple #[.int .i64 r1, .bool r2]) ∧ Below w.heap.size w w' := by
 have HB := Aside0.mk (Below.refl w.heap.size w)
 unfold spec_CountTurns.f at h
 have H := h
 clear h
 replace H := Option.bind_eq_some_iff.mp H
 obtain ⟨t174, A20, H⟩ := H
 (try dsimp only at H)
 have A2 := Aside0.mk A20
 clear A20
 by_cases c3 : t174 = true
 ·subst c3
  rw [if_pos rfl] at H
  have H' := Aside0.mk H
  clear H
  go_enter Tryz.func11, Tryz.ntmps11
  go_wp2_with (first | ((with_reducible refine gate_callee (f := 42) rfl ?_); refine gl (some 6) Tryz.func42 #[.string a0] ?_; (with_reducible refine (spec_rwGood.calls k a0 true _ A2.out).mono ?_); rintro e w' ⟨rfl, ⟨nd, rfl⟩⟩; refine ⟨_, rfl, ?_⟩))
  go_loopg [0, 4] k (fun kq v0 v4 w' => ∃ (x0_1 : ByteArray) (x4_1 : Int), v0 = .string x0_1 ∧ v4 = .int .i64 x4_1 ∧ Aside0 (spec_CountTurns.l0 kq x0_1 x4_1 = some (r1, r2)) ∧ Aside0 (kq ≤ k) ∧ Aside0 (Below w.heap.size w w'))
  case atStart => exact ⟨(a0), (0), (rs), (rs), H', ⟨Nat.le_refl _⟩, ⟨bw⟩⟩
  case round =>
   clear H'
   try clear c1
   try clear p2
   try clear c3
   obtain ⟨x0_1, x4_1, rfl, rfl, HA, HK1, HB⟩ := hrel
   cases gk with
   | zero => exact absurd HA.out (by simp [spec_CountTurns.l0])
   | succ k1 =>
    have H := HA.out
    clear HA
    simp only [spec_CountTurns.l0] at H
    replace H := Option.bind_eq_some_iff.mp H
    obtain ⟨t175, A40, H⟩ := H
    (try dsimp only at H)
    have A4 := Aside0.mk A40
    clear A40
    by_cases c5 : (t175.length : Int) > 0
    ·rw [if_pos c5] at H
     have c5b0 : decide (0 < (t175.length : Int)) = true := decide_eq_true c5
     have c5b1 : decide (0 < t175.length) = true := decide_eq_true (by omega)
     clear c5
     replace H := Option.bind_eq_some_iff.mp H
     obtain ⟨t178, A60, H⟩ := H
     (try dsimp only at H)
     have A6 := Aside0.mk A60
     clear A60
     replace H := Option.bind_eq_some_iff.mp H
     obtain ⟨t181, A70, H⟩ := H
     (try dsimp only at H)
     have A7 := Aside0.mk A70
     clear A70
     have H' := Aside0.mk H
     clear H
     go_wp2_with (first | ((with_reducible refine gate_callee (f := 48) rfl ?_); refine gl (some 9) Tryz.func48 #[.string x0_1] ?_; (with_reducible refine (spec_rwPairs.calls k1 x0_1 t175 _ A4.out).mono ?_); rintro e w8 ⟨v176, rfl, ho0, hb⟩; refine ⟨_, rfl, ?_⟩; have HO177 := Aside0.mk (Kd.R_lower ho0 (below_size bw)); replace HB := bs hb; (try clear hb); (try clear ho0); obtain ⟨Ao9, co9, eo9⟩ := Kd.R_slice HO177.out; subst eo9) | ((with_reducible refine gate_callee (f := 48) rfl ?_); refine gl (some 14) Tryz.func48 #[.string x0_1] ?_; (with_reducible refine (spec_rwPairs.calls k1 x0_1 t178 _ A6.out).mono ?_); rintro e w10 ⟨v179, rfl, ho0, hb⟩; refine ⟨_, rfl, ?_⟩; have HO180 := Aside0.mk (Kd.R_lower (Kd.R_new' ho0 (Kd.R_lt (pr HO177))) (below_size bw)); replace HO177 := Aside0.mk (Kd.R_elder' (pr HO177) (Kd.R_base ho0) hb); replace HB := bs hb; (try clear hb); (try clear ho0); obtain ⟨Ao11, co11, eo11⟩ := Kd.R_slice HO180.out; subst eo11) | ((with_reducible refine gate_callee (f := 49) rfl ?_); refine gl (some 18) Tryz.func49 #[.string x0_1] ?_; (with_reducible refine (spec_rwTick.calls k1 x0_1 t181 _ A7.out).mono ?_); rintro e w12 ⟨rfl, hb⟩; refine ⟨_, rfl, ?_⟩; replace HO177 := Aside0.mk (Kd.R_below (pr HO177) hb); replace HO180 := Aside0.mk (Kd.R_below (pr HO180) hb); replace HB := bs hb; (try clear hb)))
     go_roundg k1
     case measure => have := HK1.out; omega
     case rel => exact ⟨(t181), (wrap64 (x4_1 + (t178.length : Int))), (rs), (rs), H', ⟨by have := HK1.out; omega⟩, ⟨bw⟩⟩
    ·rw [if_neg c5] at H
     have c5b0 : decide (0 < (t175.length : Int)) = false := decide_eq_false c5
     have c5b1 : decide (0 < t175.length) = false := decide_eq_false (by omega)
     clear c5
     simp only [Option.some.injEq, Prod.mk.injEq] at H
     obtain ⟨rfl, rfl⟩ := H
     go_wp2_with (first | ((with_reducible refine gate_callee (f := 48) rfl ?_); refine gl (some 9) Tryz.func48 #[.string x0_1] ?_; (with_reducible refine (spec_rwPairs.calls k1 x0_1 t175 _ A4.out).mono ?_); rintro e w13 ⟨v176, rfl, ho0, hb⟩; refine ⟨_, rfl, ?_⟩; have HO177 := Aside0.mk (Kd.R_lower ho0 (below_size bw)); replace HB := bs hb; (try clear hb); (try clear ho0); obtain ⟨Ao14, co14, eo14⟩ := Kd.R_slice HO177.out; subst eo14))
     go_ret2
     exact ⟨rs, bw⟩
 ·replace c3 := Bool.eq_false_iff.mpr c3
  subst c3
  rw [if_neg (show ¬ (false = true) by decide)] at H
  simp only [Option.some.injEq, Prod.mk.injEq] at H
  obtain ⟨rfl, rfl⟩ := H
  go_enter Tryz.func11, Tryz.ntmps11
  go_wp2_with (first | ((with_reducible refine gate_callee (f := 42) rfl ?_); refine gl (some 6) Tryz.func42 #[.string a0] ?_; (with_reducible refine (spec_rwGood.calls k a0 false _ A2.out).mono ?_); rintro e w' ⟨rfl, ⟨nd, rfl⟩⟩; refine ⟨_, rfl, ?_⟩))
  go_ret2
  exact ⟨rs, bw⟩

/-! ### impl_TurnsOfEach: function 12 -/
def impl_TurnsOfEach_bmp (o : List Int) (j : Int) : List Int := (o.set j.toNat (wrap64 (rd o j + 1))).set (j + 1).toNat (wrap64 (rd (o.set j.toNat (wrap64 (rd o j + 1))) (j + 1) + 1))
theorem impl_TurnsOfEach_bmp_len (o : List Int) (j : Int) : (impl_TurnsOfEach_bmp o j).length = o.length := by simp [impl_TurnsOfEach_bmp]
def impl_TurnsOfEach_clo.l0 : Nat → List Int → Int → List Int → Option (List Int)
  | 0, _, _, _ => none
  | k + 1, ps, i, o => if i < (ps.length : Int) then (if 0 ≤ i then (if 0 ≤ rd ps i then (if rd ps i + 1 < (o.length : Int) then impl_TurnsOfEach_clo.l0 k ps (wrap64 (i + 1)) (impl_TurnsOfEach_bmp o (rd ps i)) else none) else none) else none) else some o
theorem impl_TurnsOfEach_clo.mono_l : ∀ k, (∀ y0 y1 y2, LeO (impl_TurnsOfEach_clo.l0 k y0 y1 y2) (impl_TurnsOfEach_clo.l0 (k + 1) y0 y1 y2))
  | 0 => fun _ _ _ r h => by simp [impl_TurnsOfEach_clo.l0] at h
  | k + 1 => by
    have ih0 := impl_TurnsOfEach_clo.mono_l k
    · intro y0 y1 y2
      unfold impl_TurnsOfEach_clo.l0
      repeat' first
      | (with_reducible exact ih0 _ _ _)
      | (with_reducible exact LeO.refl _)
      | (with_reducible exact LeO.none _)
      | (with_reducible refine LeO.ite ?_ ?_)
      | (with_reducible refine LeO.bind ?_ (fun _ => ?_))
def impl_TurnsOfEach_clo.f (k : Nat) (x : ByteArray) (o : List Int) : Option (List Int) := (impl_facing.f k x).bind fun ps => impl_TurnsOfEach_clo.l0 k ps 0 o
theorem impl_TurnsOfEach_clo.mono : ∀ a0 a1 k, LeO (impl_TurnsOfEach_clo.f k a0 a1) (impl_TurnsOfEach_clo.f (k + 1) a0 a1) := by
  intro a0 a1 k
  unfold impl_TurnsOfEach_clo.f
  exact LeO.bind (impl_facing.mono a0 k) (fun _ => impl_TurnsOfEach_clo.mono_l k _ _ _)
def impl_TurnsOfEach.l0 : Nat → ByteArray → List Int → Option (List Int)
  | 0, _, _ => none
  | k + 1, x, o => (impl_isAtRest.f x).bind fun t => if t = true then some o else (impl_TurnsOfEach_clo.f k x o).bind fun o2 => (impl_tick.f x).bind fun y => impl_TurnsOfEach.l0 k y o2
theorem impl_TurnsOfEach.mono_l : ∀ k, (∀ y0 y1, LeO (impl_TurnsOfEach.l0 k y0 y1) (impl_TurnsOfEach.l0 (k + 1) y0 y1))
  | 0 => fun _ _ r h => by simp [impl_TurnsOfEach.l0] at h
  | k + 1 => by
    have ih0 := impl_TurnsOfEach.mono_l k
    · intro y0 y1
      unfold impl_TurnsOfEach.l0
      repeat' first
      | (with_reducible exact ih0 _ _)
      | (with_reducible exact impl_TurnsOfEach_clo.mono _ _ _)
      | (with_reducible exact LeO.refl _)
      | (with_reducible exact LeO.none _)
      | (with_reducible refine LeO.ite ?_ ?_)
      | (with_reducible refine LeO.bind ?_ (fun _ => ?_))
def impl_TurnsOfEach.f (k : Nat) (a0 : ByteArray) : Option (List Int × Bool) := (impl_isRow.f a0).bind fun t => if t = true then (if a0.size ≤ 4294967296 then (impl_TurnsOfEach.l0 k a0 (List.replicate a0.size 0)).bind fun o => some (o, true) else none) else some ([], false)
theorem impl_TurnsOfEach.mono : ∀ a0 k, LeO (impl_TurnsOfEach.f k a0) (impl_TurnsOfEach.f (k + 1) a0) := by
  intro a0 k
  unfold impl_TurnsOfEach.f
  exact LeO.bind (LeO.refl _) (fun _ => LeO.ite (LeO.ite (LeO.bind (impl_TurnsOfEach.mono_l k _ _) (fun _ => LeO.refl _)) (LeO.none _)) (LeO.refl _))
theorem impl_TurnsOfEach_hist : ∀ (k : Nat) (x : ByteArray) (o r : List Int), impl_TurnsOfEach.l0 k x o = some r → ∃ y, impl_history.l0 k x = some y
  | 0, _, _, _, h => by simp [impl_TurnsOfEach.l0] at h
  | k + 1, x, o, r, h => by
    simp only [impl_TurnsOfEach.l0] at h
    obtain ⟨t, h1, h⟩ := Option.bind_eq_some_iff.mp h
    simp only [impl_history.l0, h1, Option.bind_some]
    cases t with
    | true => exact ⟨x, rfl⟩
    | false =>
      rw [if_neg (by decide)] at h
      obtain ⟨o2, _, h⟩ := Option.bind_eq_some_iff.mp h
      obtain ⟨y, h2, h⟩ := Option.bind_eq_some_iff.mp h
      obtain ⟨z, hz⟩ := impl_TurnsOfEach_hist k y _ r h
      exact ⟨z, by rw [if_neg (by decide), h2]; exact hz⟩
theorem impl_TurnsOfEach_cell {w : World} {go t : Nat} {o : List Int} (h : w.heap[go]? = some (.cells (o.map (Value.int .i64)).toArray t (0, 0))) (j : Int) (h0 : 0 ≤ j) (h1 : j < (o.length : Int)) : w.cell? ⟨go, j.toNat, none⟩ = some (.int .i64 (rd o j)) := by
  rw [blk_cell h]
  have hj : j.toNat < o.length := by omega
  simp [rd, hj]
theorem impl_TurnsOfEach_put {w : World} {go t : Nat} {o : List Int} (h : w.heap[go]? = some (.cells (o.map (Value.int .i64)).toArray t (0, 0))) (j : Nat) (v : Int) : (w.setCell ⟨go, j, none⟩ (.int .i64 v)).heap[go]? = some (.cells ((o.set j v).map (Value.int .i64)).toArray t (0, 0)) :=
  blk_put h j _ (by simp [List.map_set])
set_option maxHeartbeats 8000000 in
set_option maxRecDepth 100000 in
theorem impl_TurnsOfEach_clo.calls (k : Nat) (g go n : Nat) (x : ByteArray) (o r : List Int) (w0 w : World) (hn : n ≤ 4294967296) (hne : g ≠ go) (hwg : w0.heap.size ≤ go) (hB : Below w0.heap.size w0 w)
  (hb : w.heap[g]? = some (.cells #[.slice (some ⟨go, 0, none⟩) n n] 29 (0, 0))) (ho : w.heap[go]? = some (.cells (o.map (Value.int .i64)).toArray 3 (0, 0))) (hl : o.length = n) (h : impl_TurnsOfEach_clo.f k x o = some r) :
  Calls Tryz.prog 50 (#[.string x] ++ #[.pointer (some ⟨g, 0, none⟩)]) w fun e w' => e = .returned (.tuple #[]) ∧ w'.heap[g]? = some (.cells #[.slice (some ⟨go, 0, none⟩) n n] 29 (0, 0)) ∧ w'.heap[go]? = some (.cells (r.map (Value.int .i64)).toArray 3 (0, 0)) ∧ r.length = n ∧ Below w0.heap.size w0 w' := by
 show Calls Tryz.prog 50 #[.string x, .pointer (some ⟨g, 0, none⟩)] w _
 unfold impl_TurnsOfEach_clo.f at h
 obtain ⟨ps, h1, h2⟩ := Option.bind_eq_some_iff.mp h
 have A1 := Aside0.mk h1
 have H' := Aside0.mk h2
 have HN := Aside0.mk hne
 have HNN := Aside0.mk hn
 have HW := Aside0.mk hwg
 have HB := Aside0.mk hB
 have HG := Aside0.mk hb
 have HO := Aside0.mk ho
 have HL := Aside0.mk hl
 have HGL := Aside0.mk (blk_lt ho)
 clear h h1 h2 hn hne hwg hB hb ho hl
 go_enter Tryz.func50, Tryz.ntmps50
 go_wp2_with ((go_at_call 47; (with_reducible refine (impl_facing.calls k x ps _ A1.out).mono ?_); rintro e w3 ⟨v1, rfl, ho0, hb⟩; have HR := Aside0.mk ho0; obtain ⟨Ao, co, eo⟩ := Kd.R_slice HR.out; subst eo; replace HG := Aside0.mk (blk_below HG.out hb); replace HO := Aside0.mk (blk_below HO.out hb); replace HB := Aside0.mk (below_step HB.out hb); clear hb ho0))
 have hps : ∀ i : Int, 0 ≤ i → i < (ps.length : Int) → ∃ ad : Addr, Ao = some ad ∧ go ≠ (ad.add i.toNat).block ∧ w3.cell? (ad.add i.toNat) = some (.int .i64 (rd ps i)) := by
  intro i h0 h1
  obtain ⟨ad, e, hx⟩ := Kd.at_int (Kd.R_reads' HR.out).2.2 i h0 h1
  obtain ⟨g5, c5, e5, gb5, _⟩ := Kd.R_form HR.out (by omega)
  refine ⟨ad, e, ?_, hx⟩
  rw [e] at e5
  injection e5 with e6 _ _
  injection e6 with e6
  subst e6
  have := HGL.out
  have e9 : ((⟨g5, 0, none⟩ : Addr).add i.toNat).block = g5 := by unfold Addr.add; split <;> rfl
  rw [e9]
  omega
 have HP := Aside0.mk hps
 clear hps HR HGL
 go_loopg [8] k (fun kq v8 w' => ∃ (x8 : Int) (o1 : List Int), v8 = .int .i64 x8 ∧ Aside0 (impl_TurnsOfEach_clo.l0 kq ps x8 o1 = some r) ∧ Aside0 (kq ≤ k) ∧ Aside0 (w'.heap[g]? = some (.cells #[.slice (some ⟨go, 0, none⟩) n n] 29 (0, 0))) ∧ Aside0 (w'.heap[go]? = some (.cells (o1.map (Value.int .i64)).toArray 3 (0, 0))) ∧ Aside0 (o1.length = n)
  ∧ Aside0 (∀ i : Int, 0 ≤ i → i < (ps.length : Int) → ∃ ad : Addr, Ao = some ad ∧ go ≠ (ad.add i.toNat).block ∧ w'.cell? (ad.add i.toNat) = some (.int .i64 (rd ps i))) ∧ Aside0 (Below w0.heap.size w0 w'))
 case atStart => exact ⟨0, o, rfl, H', ⟨Nat.le_refl _⟩, HG, HO, HL, HP, HB⟩
 case round =>
  clear H' HG HO HL HP HB
  obtain ⟨x8, o1, rfl, HA, HK1, HG, HO, HL, HP, HB⟩ := hrel
  cases gk with
  | zero => exact absurd HA.out (by simp [impl_TurnsOfEach_clo.l0])
  | succ k1 =>
   have H := HA.out
   clear HA
   simp only [impl_TurnsOfEach_clo.l0] at H
   by_cases c4 : x8 < (ps.length : Int)
   ·rw [if_pos c4] at H
    have c4b0 : decide (x8 < (ps.length : Int)) = true := decide_eq_true c4
    by_cases c5 : 0 ≤ x8
    ·rw [if_pos c5] at H
     by_cases c6 : 0 ≤ rd ps x8
     ·rw [if_pos c6] at H
      by_cases c7 : rd ps x8 + 1 < (o1.length : Int)
      ·rw [if_pos c7] at H
       have H' := Aside0.mk H
       clear H
       obtain ⟨ad0, e1, hnb, hx⟩ := HP.out x8 c5 c4
       cases e1
       have p5 := eq_true c5
       have p4 := eq_true c4
       obtain ⟨j, hj⟩ : ∃ j, j = rd ps x8 := ⟨_, rfl⟩
       rw [← hj] at hx c6 c7
       have hcg : wr.cell? ⟨g, 0, none⟩ = some (.slice (some ⟨go, 0, none⟩) n n) := (blk_cell HG.out 0).trans rfl
       have hjn : j < (n : Int) := by have := HL.out; omega
       have hj1n : j + 1 < (n : Int) := by have := HL.out; omega
       have hn47 := HNN.out
       have q6 := eq_true c6
       have q7 := eq_true hjn
       have hc1 := impl_TurnsOfEach_cell HO.out j c6 (by omega)
       have hf1 : wr.frozen? ⟨go, j.toNat, none⟩ = false := blk_frozen HO.out _
       obtain ⟨v1, hv1⟩ : ∃ v1, IntKind.i64.wrap (rd o1 j + 1) = v1 := ⟨_, rfl⟩
       obtain ⟨j1, hj1⟩ : ∃ j1, IntKind.i64.wrap (j + 1) = j1 := ⟨_, rfl⟩
       have hj1' : j1 = j + 1 := by rw [← hj1, i64_w]; unfold wrap64; omega
       have q8 : (0 ≤ j1) = True := eq_true (by omega)
       have q9 : (j1 < (n : Int)) = True := eq_true (by omega)
       obtain ⟨v2, hv2⟩ : ∃ v2, IntKind.i64.wrap (rd (o1.set j.toNat v1) j1 + 1) = v2 := ⟨_, rfl⟩
       have eB : impl_TurnsOfEach_bmp o1 (rd ps x8) = (o1.set j.toNat v1).set j1.toNat v2 := by
        rw [← hj]
        unfold impl_TurnsOfEach_bmp
        rw [← hj1', ← i64_w (rd o1 j + 1), hv1, ← i64_w (rd (o1.set j.toNat v1) j1 + 1), hv2]
       have HE := Aside0.mk eB
       have HJJ := Aside0.mk hj
       clear eB hj hnb c4 c5 c7 hjn hj1n hn47 hj1'
       go_wp2_with (first | ((with_reducible refine gate_store (t := 3) (p := 17) rfl ?_); refine store_event (t := 3) (p := 17) (v := ?vo_17) (w1 := (wr.setCell ⟨go, j.toNat, none⟩ (.int .i64 v1))) ?hg ?ho ?hn ?hr ?_; (case ho => rfl); (case hg => rfl); (case hn => rfl); (case hr => first | (go_simp; done) | (go_simp; rfl)); intro w8 hw; have hcg : w8.cell? ⟨g, 0, none⟩ = some (.slice (some ⟨go, 0, none⟩) n n) := (by rw [hw]; exact (blk_cell (blk_far HG.out HN.out _) 0).trans rfl); have hc2 : w8.cell? ⟨go, j1.toNat, none⟩ = some (.int .i64 (rd (o1.set j.toNat v1) j1)) := (by rw [hw]; exact impl_TurnsOfEach_cell (impl_TurnsOfEach_put HO.out _ _) j1 (of_eq_true q8) (by rw [List.length_set, HL.out]; exact of_eq_true q9)); have hf2 : w8.frozen? ⟨go, j1.toNat, none⟩ = false := (by rw [hw]; exact blk_frozen (impl_TurnsOfEach_put HO.out _ _) _); have HW8 := Aside0.mk hw; clear hw) | ((with_reducible refine gate_store (t := 3) (p := 24) rfl ?_); refine store_event (t := 3) (p := 24) (v := ?vo_24) (w1 := (w8.setCell ⟨go, j1.toNat, none⟩ (.int .i64 v2))) ?hg ?ho ?hn ?hr ?_; (case ho => rfl); (case hg => rfl); (case hn => rfl); (case hr => first | (go_simp; done) | (go_simp; rfl)); intro w9 hw; have HW9 := Aside0.mk hw; clear hw))
       have k9 : w9.heap[go]? = some (.cells ((impl_TurnsOfEach_bmp o1 (rd ps x8)).map (Value.int .i64)).toArray 3 (0, 0)) := by
        rw [HW9.out, HE.out, HW8.out]
        exact impl_TurnsOfEach_put (impl_TurnsOfEach_put HO.out _ _) _ _
       have k8 : w9.heap[g]? = some (.cells #[.slice (some ⟨go, 0, none⟩) n n] 29 (0, 0)) := by
        rw [HW9.out, HW8.out]
        exact blk_far (blk_far HG.out HN.out _) HN.out _
       have k7 : Below w0.heap.size w0 w9 := by
        rw [HW9.out, HW8.out]
        exact below_set (below_set HB.out HW.out) HW.out
       have k6 : ∀ i : Int, 0 ≤ i → i < (ps.length : Int) → ∃ ad : Addr, some ad0 = some ad ∧ go ≠ (ad.add i.toNat).block ∧ w9.cell? (ad.add i.toNat) = some (.int .i64 (rd ps i)) := by
        intro i h0 h1
        obtain ⟨ad, e, hb2, hx2⟩ := HP.out i h0 h1
        refine ⟨ad, e, hb2, ?_⟩
        have e1 : ∀ q : Nat, (⟨go, q, none⟩ : Addr) ≠ ad.add i.toNat := fun q e => hb2 (congrArg Addr.block e)
        rw [HW9.out, HW8.out, World.cell?_setCell_other _ _ _ _ (e1 _), World.cell?_setCell_other _ _ _ _ (e1 _)]
        exact hx2
       have k5 : (impl_TurnsOfEach_bmp o1 (rd ps x8)).length = n := by rw [impl_TurnsOfEach_bmp_len, HL.out]
       go_roundg k1
       case measure => have := HK1.out; omega
       case rel => exact ⟨(wrap64 (x8 + 1)), _, (rs), H', ⟨by have := HK1.out; omega⟩, ⟨k8⟩, ⟨k9⟩, ⟨k5⟩, ⟨k6⟩, ⟨k7⟩⟩
      ·rw [if_neg c7] at H
       exact absurd H (by simp)
     ·rw [if_neg c6] at H
      exact absurd H (by simp)
    ·rw [if_neg c5] at H
     exact absurd H (by simp)
   ·rw [if_neg c4] at H
    have c4b0 : decide (x8 < (ps.length : Int)) = false := decide_eq_false c4
    clear c4
    obtain rfl := Option.some.inj H
    clear H
    go_wp2
    go_end0
    exact ⟨rfl, HG.out, HO.out, HL.out, HB.out⟩
theorem impl_TurnsOfEach_made (n : Nat) : madeCells #[Value.int .i64 0] n = ((List.replicate n (0 : Int)).map (Value.int .i64)).toArray := by
  apply Array.ext
  · simp [madeCells]
  · intro i h1 h2
    simp [madeCells, Nat.mod_one]
set_option maxHeartbeats 8000000 in
set_option maxRecDepth 100000 in
theorem impl_TurnsOfEach.calls (k : Nat) (a0 : ByteArray) (r1 : List Int) (r2 : Bool) (w : World) (hm : Dr.Tab w) (h : impl_TurnsOfEach.f k a0 = some (r1, r2)) :
  Calls Tryz.prog 12 #[.string a0] w fun e w' => ∃ v0_ : Value, e = .returned (.tuple #[v0_, .bool r2]) ∧ Kd.R (Kd.int .i64) 3 w' w.heap.size (fun _ => True) v0_ r1 ∧ Below w.heap.size w w' := by
 unfold impl_TurnsOfEach.f at h
 obtain ⟨t, h1, h⟩ := Option.bind_eq_some_iff.mp h
 have A1 := Aside0.mk h1
 have HMM := Aside0.mk hm
 have HB := Aside0.mk (Below.refl w.heap.size w)
 clear h1 hm
 cases t with
 | false =>
  rw [if_neg (by decide)] at h
  simp only [Option.some.injEq, Prod.mk.injEq] at h
  obtain ⟨rfl, rfl⟩ := h
  go_enter Tryz.func12, Tryz.ntmps12
  go_wp2_with ((go_at_call 40; (with_reducible refine (impl_isRow.calls a0 false _ A1.out).mono ?_); rintro e w3 ⟨rfl, hb⟩; replace HB := Aside0.mk (below_step HB.out hb); clear hb))
  go_ret2
  exact ⟨_, rfl, Kd.R_nil _ _ _ _ _, HB.out⟩
 | true =>
  rw [if_pos rfl] at h
  by_cases hs : a0.size ≤ 4294967296
  ·rw [if_pos hs] at h
   obtain ⟨o, h2, h⟩ := Option.bind_eq_some_iff.mp h
   simp only [Option.some.injEq, Prod.mk.injEq] at h
   obtain ⟨rfl, rfl⟩ := h
   obtain ⟨y, hy⟩ := impl_TurnsOfEach_hist k a0 _ o h2
   have H := Aside0.mk h2
   have HY := Aside0.mk hy
   have HN := Aside0.mk hs
   have hmk := print_make (P := Tryz.prog) 29 3 .i64 8 Tryz.underlying29 (by kernel_rfl) (by omega) a0.size (by omega)
   have HM := Aside0.mk hmk
   clear h2 hy hs hmk
   have p1 : decide ((a0.size : Int) < 0) = false := decide_eq_false (by omega)
   have hW : ∀ w3 : World, Below w.heap.size w w3 → ((fun (x : ByteArray) (w' : World) => ∃ (kq : Nat) (o1 : List Int), impl_TurnsOfEach.l0 kq x o1 = some o ∧ w'.heap[w3.heap.size + 1]? = some (.cells #[.slice (some ⟨w3.heap.size, 0, none⟩) a0.size a0.size] 29 (0, 0)) ∧ w'.heap[w3.heap.size]? = some (.cells (o1.map (Value.int .i64)).toArray 3 (0, 0)) ∧ o1.length = a0.size ∧ Below w.heap.size w w') a0 ((w3.alloc (.cells (madeCells #[Value.int .i64 0] a0.size) 3)).alloc (.cells #[.slice (some ⟨w3.heap.size, 0, none⟩) a0.size a0.size] 29))) := by
    intro w3 hb
    refine ⟨k, _, H.out, ?_, ?_, by simp, below_alloc (below_alloc hb _) _⟩
    ·have := blk_new (w3.alloc (.cells (madeCells #[Value.int .i64 0] a0.size) 3)) (.cells #[.slice (some ⟨w3.heap.size, 0, none⟩) a0.size a0.size] 29)
     rw [show (w3.alloc (.cells (madeCells #[Value.int .i64 0] a0.size) 3)).heap.size = w3.heap.size + 1 by simp] at this
     exact this
    ·rw [← impl_TurnsOfEach_made]
     exact blk_alloc (blk_new w3 _) _
   have hstep : ∀ w3 : World, w.heap.size ≤ w3.heap.size → ∀ (x y : ByteArray) (w' : World), (∃ (kq : Nat) (o1 : List Int), impl_TurnsOfEach.l0 kq x o1 = some o ∧ w'.heap[w3.heap.size + 1]? = some (.cells #[.slice (some ⟨w3.heap.size, 0, none⟩) a0.size a0.size] 29 (0, 0)) ∧ w'.heap[w3.heap.size]? = some (.cells (o1.map (Value.int .i64)).toArray 3 (0, 0)) ∧ o1.length = a0.size ∧ Below w.heap.size w w') → impl_isAtRest.f x = some false → impl_tick.f x = some y →
     Calls Tryz.prog 50 (#[.string x] ++ #[.pointer (some ⟨w3.heap.size + 1, 0, none⟩)]) w' fun e w'' => e = .returned (.tuple #[]) ∧ ((fun (x : ByteArray) (w' : World) => ∃ (kq : Nat) (o1 : List Int), impl_TurnsOfEach.l0 kq x o1 = some o ∧ w'.heap[w3.heap.size + 1]? = some (.cells #[.slice (some ⟨w3.heap.size, 0, none⟩) a0.size a0.size] 29 (0, 0)) ∧ w'.heap[w3.heap.size]? = some (.cells (o1.map (Value.int .i64)).toArray 3 (0, 0)) ∧ o1.length = a0.size ∧ Below w.heap.size w w') y w'') := by
    intro w3 hle x y w1 ⟨kq, o1, h1, h2, h3, h4, h5⟩ hr ht
    match kq, h1 with
    | 0, h1 => simp [impl_TurnsOfEach.l0] at h1
    | kq + 1, h1 =>
     simp only [impl_TurnsOfEach.l0, hr, Option.bind_some] at h1
     rw [if_neg (by decide)] at h1
     obtain ⟨o2, hc, h1⟩ := Option.bind_eq_some_iff.mp h1
     rw [ht, Option.bind_some] at h1
     refine (impl_TurnsOfEach_clo.calls kq (w3.heap.size + 1) w3.heap.size a0.size x o1 o2 w w1 HN.out (by omega) hle h5 h2 h3 h4 hc).mono ?_
     rintro e w2 ⟨rfl, k1, k2, k3, k4⟩
     exact ⟨rfl, kq, o2, h1, k1, k2, k3, k4⟩
   have HS := Aside0.mk hstep
   have HW := Aside0.mk hW
   clear hstep hW
   go_enter Tryz.func12, Tryz.ntmps12
   go_wp2_with (first | (go_at_call 40; (with_reducible refine (impl_isRow.calls a0 true _ A1.out).mono ?_); rintro e w3 ⟨rfl, hb⟩; replace HB := Aside0.mk (below_step HB.out hb); clear hb) | simp only [HM.out] | (go_at_call 44; refine (impl_history.calls k 50 Tryz.f50 #[.pointer (some ⟨w3.heap.size + 1, 0, none⟩)] Tryz.func50 (by kernel_rfl) (by kernel_rfl)
  (fun x w' => ∃ (kq : Nat) (o1 : List Int), impl_TurnsOfEach.l0 kq x o1 = some o ∧ w'.heap[w3.heap.size + 1]? = some (.cells #[.slice (some ⟨w3.heap.size, 0, none⟩) a0.size a0.size] 29 (0, 0)) ∧ w'.heap[w3.heap.size]? = some (.cells (o1.map (Value.int .i64)).toArray 3 (0, 0)) ∧ o1.length = a0.size ∧ Below w.heap.size w w')
  (fun x w' ⟨_, _, _, _, _, _, hB⟩ => HMM.out.below hB) (fun x w1 w2 ⟨kq, n, h1, h2, h3, h4, h5⟩ hb => ⟨kq, n, h1, blk_below h2 hb, blk_below h3 hb, h4, below_step h5 hb⟩) (HS.out w3 HB.out.size) a0 y _ (HW.out w3 HB.out) HY.out).mono ?_; rintro e w' ⟨rfl, ⟨kq, o1, h1, h2, h3, h4, h5⟩, hr⟩; have hcg : w'.cell? ⟨w3.heap.size + 1, 0, none⟩ = some (.slice (some ⟨w3.heap.size, 0, none⟩) a0.size a0.size) := (blk_cell h2 0).trans rfl))
   have ho : o1 = o := by
    match kq, h1 with
    | 0, h1 => simp [impl_TurnsOfEach.l0] at h1
    | kq + 1, h1 =>
     simp only [impl_TurnsOfEach.l0, hr, Option.bind_some, if_true] at h1
     exact Option.some.inj h1
   subst ho
   go_ret2
   refine ⟨.slice (some ⟨w3.heap.size, 0, none⟩) a0.size a0.size, rfl, ?_, h5⟩
   refine Kd.R_of_own ⟨by simp [encs], .inr ⟨w3.heap.size, a0.size, _, by rw [h4], HB.out.size, h3, by omega, by have := HN.out; unfold maxLen; omega, by simp [h4], ?_⟩⟩ (fun _ _ => trivial)
   simp [encs, List.take_of_length_le]
  ·rw [if_neg hs] at h
   cases h

end Go.Proofs.YtolalphffodkdaaGreatDoor.PFnRowsRest
