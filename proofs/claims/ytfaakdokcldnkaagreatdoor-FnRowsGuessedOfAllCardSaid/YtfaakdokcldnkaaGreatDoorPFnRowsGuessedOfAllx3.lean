-- Laid by xprint, a program of this session that runs over the kit's print.
import Derived.Test.YtfaakdokcldnkaaGreatDoorPFnRowsGuessedOfAllx2
namespace Go.Proofs.YtfaakdokcldnkaaGreatDoor.PFnRowsGuessedOfAll
open Go.RowKit Go.Proofs.YtfaakdokcldnkaaGreatDoorW.PrintWords Go.Proofs.YtfaakdokcldnkaaGreatDoorW.PrintLast Go.Proofs.YtfaakdokcldnkaaGreatDoorW.PrintMore Go.Proofs.YtfaakdokcldnkaaGreatDoor.Sq
attribute [local go_sem] max2_int min2_int max_two min_two max_three min_three max_four min_four   -- for this text's walks alone
set_option linter.unusedVariables false
set_option linter.unusedSimpArgs false

attribute [local go_sem high] eqA42
/-! ### impl_history: function 114 -/
def impl_history.l0 : Nat → ByteArray → Option ByteArray
  | 0, _ => none
  | k + 1, x => (impl_isAtRest.f x).bind fun t => if t = true then some x else (impl_tick.f x).bind fun y => impl_history.l0 k y
set_option maxHeartbeats 8000000 in
set_option maxRecDepth 100000 in
theorem impl_history.calls (k : Nat) (gf : FuncId) (fn : Func) (cap : Array Value) (hf : Tryz.prog.funcs[gf]? = some fn) (hnm : (fn.name == "runtime.NumGoroutine") = false) (hbd : fn.body.isSome = true)
  (J : ByteArray → World → Prop) (hT : ∀ x w, J x w → Dr.Tab w) (hJ : ∀ x w w', J x w → Below w.heap.size w w' → J x w')
  (hstep : ∀ x y w, J x w → impl_isAtRest.f x = some false → impl_tick.f x = some y → Calls Tryz.prog gf (#[.string x] ++ cap) w fun e w' => e = .returned (.tuple #[]) ∧ J y w')
  (x r : ByteArray) (w : World) (hj : J x w) (h : impl_history.l0 k x = some r) :
  Calls Tryz.prog 114 #[.string x, .func (.func gf) #[] cap] w fun e w' => e = .returned (.string r) ∧ J r w' ∧ impl_isAtRest.f r = some true := by
 have H' := Aside0.mk h
 have HJ := Aside0.mk hj
 clear h hj
 go_enter Tryz.func114, Tryz.ntmps114
 go_wp2
 go_loopg [0] k (fun kq v0 w' => ∃ (x0 : ByteArray), v0 = .string x0 ∧ Aside0 (impl_history.l0 kq x0 = some r) ∧ Aside0 (kq ≤ k) ∧ Aside0 (J x0 w'))
 case atStart => exact ⟨x, rfl, H', ⟨Nat.le_refl _⟩, HJ⟩
 case round =>
  clear H' HJ
  obtain ⟨x0, rfl, HA, HK1, HJ⟩ := hrel
  cases gk with
  | zero => exact absurd HA.out (by simp [impl_history.l0])
  | succ k1 =>
   have H := HA.out
   clear HA
   simp only [impl_history.l0] at H
   replace H := Option.bind_eq_some_iff.mp H
   obtain ⟨t, A0, H⟩ := H
   have A1 := Aside0.mk A0
   clear A0
   cases t with
   | true =>
    obtain rfl := Option.some.inj H
    clear H
    go_wp2_with ((go_at_call 110; (with_reducible refine (impl_isAtRest.calls x0 true _ (hT _ _ HJ.out) A1.out).mono ?_); rintro e w' ⟨rfl, ⟨nd, rfl⟩⟩))
    go_ret
    exact ⟨rfl, hJ _ _ _ HJ.out (by exact ⟨rfl, rfl, rfl, Nat.le_refl _, fun _ _ => rfl⟩), A1.out⟩
   | false =>
    rw [if_neg (by decide)] at H
    replace H := Option.bind_eq_some_iff.mp H
    obtain ⟨y, A0, H⟩ := H
    have A2 := Aside0.mk A0
    clear A0
    have H' := Aside0.mk H
    clear H
    go_wp2_with (first
     | ((with_reducible refine gd 10 ?_); refine Fv.goesV_ (some 10) rfl rfl hf hnm hbd #[.string x0] rfl (by first | rfl | (go_simp; done)) (by first | rfl | (go_simp; done)) ?_; refine (hstep x0 y _ HJ.out A1.out A2.out).mono ?_; rintro e w' ⟨rfl, hj2⟩; refine ⟨_, rfl, ?_⟩; replace HJ := Aside0.mk hj2; clear hj2)
     | (go_at_call 110; (with_reducible refine (impl_isAtRest.calls x0 false _ (hT _ _ HJ.out) A1.out).mono ?_); rintro e w' ⟨rfl, ⟨nd, rfl⟩⟩; replace HJ := Aside0.mk (hJ _ _ _ HJ.out (show Below _ _ (World.drewN _ nd) from ⟨rfl, rfl, rfl, Nat.le_refl _, fun _ _ => rfl⟩)))
     | (go_at_call 111; (with_reducible refine (impl_tick.calls x0 y _ (hT _ _ HJ.out) A2.out).mono ?_); rintro e w' ⟨rfl, hb⟩; replace HJ := Aside0.mk (hJ _ _ _ HJ.out hb); clear hb))
    go_roundg k1
    case measure => have := HK1.out; omega
    case rel => exact ⟨y, rfl, H', ⟨by have := HK1.out; omega⟩, HJ⟩

/-! ### impl_ticksToRest: function 88 -/
def impl_ticksToRest.l0 : Nat → ByteArray → Int → Option Int
  | 0, _, _ => none
  | k + 1, x, n => (impl_isAtRest.f x).bind fun t => if t = true then some n else (impl_tick.f x).bind fun y => impl_ticksToRest.l0 k y (wrap64 (n + 1))
def impl_ticksToRest.f (k : Nat) (a0 : ByteArray) : Option Int := impl_ticksToRest.l0 k a0 0
theorem impl_ticksToRest.mono_l : ∀ k, (∀ y0 y1, LeO (impl_ticksToRest.l0 k y0 y1) (impl_ticksToRest.l0 (k + 1) y0 y1))
  | 0 => fun _ _ r h => by simp [impl_ticksToRest.l0] at h
  | k + 1 => by
    have ih0 := impl_ticksToRest.mono_l k
    · intro y0 y1
      unfold impl_ticksToRest.l0
      repeat' first
      | (with_reducible exact ih0 _ _)
      | (with_reducible exact LeO.refl _)
      | (with_reducible exact LeO.none _)
      | (with_reducible refine LeO.ite ?_ ?_)
      | (with_reducible refine LeO.bind ?_ (fun _ => ?_))
theorem impl_ticksToRest.mono : ∀ a0 k, LeO (impl_ticksToRest.f k a0) (impl_ticksToRest.f (k + 1) a0) := fun a0 k => impl_ticksToRest.mono_l k a0 0
theorem impl_ticksToRest_hist : ∀ (k : Nat) (x : ByteArray) (n r : Int), impl_ticksToRest.l0 k x n = some r → ∃ y, impl_history.l0 k x = some y
  | 0, _, _, _, h => by simp [impl_ticksToRest.l0] at h
  | k + 1, x, n, r, h => by
    simp only [impl_ticksToRest.l0] at h
    obtain ⟨t, h1, h⟩ := Option.bind_eq_some_iff.mp h
    simp only [impl_history.l0, h1, Option.bind_some]
    cases t with
    | true => exact ⟨x, rfl⟩
    | false =>
      rw [if_neg (by decide)] at h
      obtain ⟨y, h2, h⟩ := Option.bind_eq_some_iff.mp h
      obtain ⟨z, hz⟩ := impl_ticksToRest_hist k y _ r h
      exact ⟨z, by rw [if_neg (by decide), h2]; exact hz⟩
set_option maxHeartbeats 8000000 in
set_option maxRecDepth 100000 in
theorem impl_ticksToRest_clo.calls (g : Nat) (n : Int) (x : ByteArray) (w : World) (hb : w.heap[g]? = some (.cells #[.int .i64 n] 3 (0, 0))) :
  Calls Tryz.prog 115 (#[.string x] ++ #[.pointer (some ⟨g, 0, none⟩)]) w fun e w' => e = .returned (.tuple #[]) ∧ w' = w.setCell ⟨g, 0, none⟩ (.int .i64 (wrap64 (n + 1))) := by
 show Calls Tryz.prog 115 #[.string x, .pointer (some ⟨g, 0, none⟩)] w _
 have hc : w.cell? ⟨g, 0, none⟩ = some (.int .i64 n) := (blk_cell hb 0).trans rfl
 have hf : w.frozen? ⟨g, 0, none⟩ = false := blk_frozen hb 0
 go_enter Tryz.func115, Tryz.ntmps115
 go_wp2
 go_end0
 exact ⟨rfl, rfl⟩
set_option maxHeartbeats 8000000 in
set_option maxRecDepth 100000 in
theorem impl_ticksToRest.calls (k : Nat) (a0 : ByteArray) (r : Int) (w : World) (hm : Dr.Tab w) (h : impl_ticksToRest.f k a0 = some r) :
  Calls Tryz.prog 88 #[.string a0] w fun e w' => e = .returned (.int .i64 r) ∧ Below w.heap.size w w' := by
 unfold impl_ticksToRest.f at h
 have H := Aside0.mk h
 obtain ⟨y, hy⟩ := impl_ticksToRest_hist k a0 0 r h
 have HY := Aside0.mk hy
 have HMM := Aside0.mk hm
 clear h hy hm
 go_enter Tryz.func88, Tryz.ntmps88
 have hb0 : (w.alloc (.cells #[.int .i64 0] 3)).heap[w.heap.size]? = some (.cells #[.int .i64 0] 3 (0, 0)) := blk_new w _
 have B0 : Below w.heap.size w (w.alloc (.cells #[.int .i64 0] 3)) := below_alloc (Below.refl _ _) _
 have hstep : ∀ (x y : ByteArray) (w' : World), (∃ (kq : Nat) (n : Int), impl_ticksToRest.l0 kq x n = some r ∧ w'.heap[w.heap.size]? = some (.cells #[.int .i64 n] 3 (0, 0)) ∧ Below w.heap.size w w') → impl_isAtRest.f x = some false → impl_tick.f x = some y →
   Calls Tryz.prog 115 (#[.string x] ++ #[.pointer (some ⟨w.heap.size, 0, none⟩)]) w' fun e w'' => e = .returned (.tuple #[]) ∧ ((fun (x : ByteArray) (w' : World) => ∃ (kq : Nat) (n : Int), impl_ticksToRest.l0 kq x n = some r ∧ w'.heap[w.heap.size]? = some (.cells #[.int .i64 n] 3 (0, 0)) ∧ Below w.heap.size w w') y w'') := by
  intro x y w1 ⟨kq, n, h1, h2, h3⟩ hr ht
  refine (impl_ticksToRest_clo.calls w.heap.size n x w1 h2).mono ?_
  rintro e w2 ⟨rfl, rfl⟩
  match kq, h1 with
  | 0, h1 => simp [impl_ticksToRest.l0] at h1
  | kq + 1, h1 =>
   simp only [impl_ticksToRest.l0, hr, ht, Option.bind_some] at h1
   rw [if_neg (by decide)] at h1
   exact ⟨rfl, kq, _, h1, blk_put h2 0 _ rfl, below_set h3 (Nat.le_refl _)⟩
 have HS := Aside0.mk hstep
 clear hstep
 go_wp2_with ((go_at_call 114; refine (impl_history.calls k 115 Tryz.f115 #[.pointer (some ⟨w.heap.size, 0, none⟩)] Tryz.func115 (by kernel_rfl) (by kernel_rfl)
  (fun x w' => ∃ (kq : Nat) (n : Int), impl_ticksToRest.l0 kq x n = some r ∧ w'.heap[w.heap.size]? = some (.cells #[.int .i64 n] 3 (0, 0)) ∧ Below w.heap.size w w')
  (fun x w' ⟨_, _, _, _, hB⟩ => HMM.out.below hB) (fun x w1 w2 ⟨kq, n, h1, h2, h3⟩ hb => ⟨kq, n, h1, blk_below h2 hb, below_step h3 hb⟩) HS.out a0 y _ ⟨k, 0, H.out, hb0, B0⟩ HY.out).mono ?_; rintro e w' ⟨rfl, ⟨kq, n, h1, h2, h3⟩, hr⟩; have hc : w'.cell? ⟨w.heap.size, 0, none⟩ = some (.int .i64 n) := (blk_cell h2 0).trans rfl))
 have hn : n = r := by
  match kq, h1 with
  | 0, h1 => simp [impl_ticksToRest.l0] at h1
  | kq + 1, h1 =>
   simp only [impl_ticksToRest.l0, hr, Option.bind_some, if_true] at h1
   exact Option.some.inj h1
 subst hn
 go_ret
 exact ⟨rfl, h3⟩

/-! ### impl_facing: function 89 -/
def impl_facing.l0 : Nat → ByteArray → List Int → Int → Int → Option (List Int)
  | 0, _, _, _, _ => none
  | k + 1, x0, x3, x8, x9 => if x9 < x8 then (if 0 ≤ x9 then (if x9 < (x0.size : Int) then (if (bt x0 x9) = 62 then (if 0 ≤ (wrap64 (x9 + 1)) then (if (wrap64 (x9 + 1)) < (x0.size : Int) then (if (bt x0 (wrap64 (x9 + 1))) = 60 then (if x3.length < 17592186044416 then (impl_facing.l0 k x0 (x3 ++ [x9]) x8 (wrap64 (x9 + 1))) else (none)) else (impl_facing.l0 k x0 x3 x8 (wrap64 (x9 + 1)))) else (none)) else (none)) else (impl_facing.l0 k x0 x3 x8 (wrap64 (x9 + 1)))) else (none)) else (none)) else (some x3)
def impl_facing.f (k : Nat) (a0 : ByteArray) : Option (List Int) := impl_facing.l0 k a0 (([] : List Int)) (wrap64 ((a0.size : Int) - 1)) 0
theorem impl_facing.mono_l : ∀ k, (∀ y0 y1 y2 y3, LeO (impl_facing.l0 k y0 y1 y2 y3) (impl_facing.l0 (k + 1) y0 y1 y2 y3))
  | 0 => fun _ _ _ _ r h => by simp [impl_facing.l0] at h
  | k + 1 => by
    have ih0 := impl_facing.mono_l k
    · intro y0 y1 y2 y3
      unfold impl_facing.l0
      repeat' first
      | (with_reducible exact ih0 _ _ _ _)
      | (with_reducible exact LeO.refl _)
      | (with_reducible exact LeO.none _)
      | (with_reducible refine LeO.ite ?_ ?_)
      | (with_reducible refine LeO.bind ?_ (fun _ => ?_))
      | exact ih0 _ _ _ _
      | exact LeO.none _
      | refine LeO.ite ?_ ?_
      | refine LeO.bind ?_ (fun _ => ?_)
theorem impl_facing.mono : ∀ a0 k, LeO (impl_facing.f k a0) (impl_facing.f (k + 1) a0) := by
  intro a0 k
  have ih0 := impl_facing.mono_l k
  unfold impl_facing.f
  repeat' first
      | (with_reducible exact ih0 _ _ _ _)
      | (with_reducible exact LeO.refl _)
      | (with_reducible exact LeO.none _)
      | (with_reducible refine LeO.ite ?_ ?_)
      | (with_reducible refine LeO.bind ?_ (fun _ => ?_))
      | exact ih0 _ _ _ _
      | exact LeO.none _
      | refine LeO.ite ?_ ?_
      | refine LeO.bind ?_ (fun _ => ?_)
set_option maxHeartbeats 8000000 in
set_option maxRecDepth 100000 in
theorem impl_facing.calls (k : Nat) (a0 : ByteArray) (r : List Int) (w : World) (h : impl_facing.f k a0 = some r) :
  Calls Tryz.prog 89 #[.string a0] w fun e w' => ∃ v0_ : Value, e = .returned (v0_) ∧ Kd.R (Kd.int .i64) 3 w' w.heap.size (fun _ => True) v0_ r ∧ Below w.heap.size w w' := by
 have HB := Aside0.mk (Below.refl w.heap.size w)
 unfold impl_facing.f at h
 have H := h
 clear h
 obtain ⟨y120, hy120⟩ : ∃ y_ : List Int, y_ = (([] : List Int)) := ⟨_, rfl⟩
 replace H : (impl_facing.l0 k a0 y120 (wrap64 ((a0.size : Int) - 1)) 0) = some r := by first | (rw [hy120]; with_reducible exact H) | (have H2_ := (Option.bind_some _ _).symm.trans H; rw [hy120]; with_reducible exact H2_) | (have H2_ := (Option.bind_some _ _).symm.trans H; with_reducible exact H2_) | with_reducible exact H | (rw [hy120]; exact H) | exact H
 have Ny120 := Aside0.mk hy120
 clear hy120
 have H' := Aside0.mk H
 clear H
 go_enter Tryz.func89, Tryz.ntmps89
 go_wp2_with (first | ((with_reducible refine gd 5 ?_); refine Kd.R_lit (Kd.int .i64) _ 3 ?hg (N := 5) ?hd (xs := ([] : List Int)) (inner := []) (ok := fun _ => True) (okp := fun _ => True) ?hr ?hp (fun _ hk => hk) trivial (Below.refl _ _) (Nat.le_refl _) (by simp) ?_; (case hd => rfl); (case hg => rfl); (case hr => first | (go_simp; done) | (go_simp; rfl)); (case hp => exact (Reps.none _ _)); intro v121 w2 ho3 hb hg_ hnew_; clear hg_ hnew_; (first | rw [← Ny120.out] at ho3 | (simp only [Int.reduceToNat] at ho3; rw [← Ny120.out] at ho3)); have HO122 := Aside0.mk (Kd.R_lower ho3 (below_size bw)); replace HB := bs hb; clear hb ho3))
 go_loopg [3, 9] k (fun kq v3 v9 w' => ∃ (x3_1 : List Int) (x9_1 : Int), v9 = .int .i64 x9_1 ∧ Aside0 (impl_facing.l0 kq a0 x3_1 (wrap64 ((a0.size : Int) - 1)) x9_1 = some r) ∧ Aside0 (kq ≤ k) ∧ Aside0 (Kd.R (Kd.int .i64) 3 w' w.heap.size (fun _ => True) v3 x3_1) ∧ Aside0 (Below w.heap.size w w'))
 case atStart => exact ⟨(y120), (0), (rs), H', ⟨Nat.le_refl _⟩, ⟨pr HO122⟩, ⟨bw⟩⟩
 case round =>
  clear H'
  try clear p2
  obtain ⟨x3_1, x9_1, rfl, HA, HK1, HO_3, HB⟩ := hrel
  cases gk with
  | zero => exact absurd HA.out (by simp [impl_facing.l0])
  | succ k1 =>
   have H := HA.out
   clear HA
   simp only [impl_facing.l0] at H
   by_cases c4 : x9_1 < (wrap64 ((a0.size : Int) - 1))
   ·rw [if_pos c4] at H
    have c4b0 := decide_eq_true c4
    clear c4
    obtain ⟨c5, H⟩ := oi H
    have c5b0 := decide_eq_true c5
    clear c5
    obtain ⟨c6, H⟩ := oi H
    have c6b0 := decide_eq_true c6
    clear c6
    by_cases c8 : (bt a0 x9_1) = 62
    ·rw [if_pos c8] at H
     have c8b0 : ((bt a0 x9_1) == 62) = true := beq_iff_eq.mpr c8
     have c8b1 : ((bt a0 x9_1) != 62) = false := bne_eq_false_iff_eq.mpr c8
     clear c8
     obtain ⟨ji9, hji9⟩ : ∃ j_ : Int, (wrap64 (x9_1 + 1)) = j_ := ⟨_, rfl⟩
     replace H : (if 0 ≤ (ji9) then (if (ji9) < (a0.size : Int) then (if (bt a0 (ji9)) = 60 then (if x3_1.length < 17592186044416 then (impl_facing.l0 k1 a0 (x3_1 ++ [x9_1]) (wrap64 ((a0.size : Int) - 1)) ji9) else (none)) else (impl_facing.l0 k1 a0 x3_1 (wrap64 ((a0.size : Int) - 1)) ji9)) else (none)) else (none)) = some r := by first | (rw [hji9] at H; exact H) | (simp only [hji9] at H ⊢; exact H)
     have hji9w : (IntKind.i64.wrap (x9_1 + 1)) = ji9 := (i64_w _).trans hji9
     obtain ⟨c10, H⟩ := oi H
     have c10b0 := decide_eq_true c10
     clear c10
     obtain ⟨c11, H⟩ := oi H
     have c11b0 := decide_eq_true c11
     clear c11
     by_cases c13 : (bt a0 (ji9)) = 60
     ·rw [if_pos c13] at H
      have c13b0 : ((bt a0 (ji9)) == 60) = true := beq_iff_eq.mpr c13
      have c13b1 : ((bt a0 (ji9)) != 60) = false := bne_eq_false_iff_eq.mpr c13
      clear c13
      obtain ⟨c14, H⟩ := oi H
      have LMc14 := Aside0.mk c14
      clear c14
      obtain ⟨y123, hy123⟩ : ∃ y_ : List Int, y_ = (x3_1 ++ [x9_1]) := ⟨_, rfl⟩
      replace H : (impl_facing.l0 k1 a0 y123 (wrap64 ((a0.size : Int) - 1)) ji9) = some r := by first | (rw [hy123]; with_reducible exact H) | (have H2_ := (Option.bind_some _ _).symm.trans H; rw [hy123]; with_reducible exact H2_) | (have H2_ := (Option.bind_some _ _).symm.trans H; with_reducible exact H2_) | with_reducible exact H | (rw [hy123]; exact H) | exact H
      have Ny123 := Aside0.mk hy123
      clear hy123
      have H' := Aside0.mk H
      clear H
      have p7 : 0 ≤ (x9_1 : Int) := of_decide_eq_true asm
      have q7 : x9_1 < (a0.size : Int) := of_decide_eq_true asm
      have hx7 := bt_at a0 x9_1
      replace p7 := eq_true p7
      replace q7 := eq_true q7
      have p12 : 0 ≤ ((ji9) : Int) := of_decide_eq_true asm
      have q12 : (ji9) < (a0.size : Int) := of_decide_eq_true asm
      have hx12 := bt_at a0 (ji9)
      replace p12 := eq_true p12
      replace q12 := eq_true q12
      go_wp2_with (first | ((with_reducible refine gate_builtin (b := .append) (xs := #[.tmp 23, .tmp 25]) rfl ?_); at_builtin; refine Kd.R_append (Kd.int .i64) (w0 := w) w.heap.size rfl (.tmp 23) (.tmp 25) 34 3 (.int .i64 0) 8 rfl Tryz.underlying34 info3 rfl (by decide) (by omega) u3 x3_1 x9_1 [.int .i64 x9_1] (fun _ => True) (fun _ => False) rfl rfl ?aP (fun _ hk => hk.elim) ?aF ?aO ?aB ?aS ?aL ?_; (case aP => exact rfl); (case aB => exact bw); (case aF => exact (fun _ _ => trivial)); (case aO => exact (pr HO_3)); (case aS => exact (below_size bw)); (case aL => have := LMc14.out; omega); intro v124 w15 ho hb hg hat; rw [← Ny123.out] at ho; have n0_ := Aside0.mk (hb); have n1_ := Aside0.mk (ho); clear HB; clear HO_3; have HB := n0_; have HO125 := n1_; clear n0_ n1_; clear ho hb hg hat))
      go_roundg k1
      case measure => have := HK1.out; omega
      case rel => exact ⟨(y123), (ji9), (by first | rfl | (simp; done) | (simp only [← hji9] <;> (first | rfl | simp)) | (simp [*]; done)), H', ⟨by have := HK1.out; omega⟩, ⟨pr HO125⟩, ⟨bw⟩⟩
     rw [if_neg c13] at H
     have c13b0 : ((bt a0 (ji9)) == 60) = false := beq_eq_false_iff_ne.mpr c13
     have c13b1 : ((bt a0 (ji9)) != 60) = true := bne_iff_ne.mpr c13
     have H' := Aside0.mk H
     clear H
     have p7 : 0 ≤ (x9_1 : Int) := of_decide_eq_true asm
     have q7 : x9_1 < (a0.size : Int) := of_decide_eq_true asm
     have hx7 := bt_at a0 x9_1
     replace p7 := eq_true p7
     replace q7 := eq_true q7
     have p12 : 0 ≤ ((ji9) : Int) := of_decide_eq_true asm
     have q12 : (ji9) < (a0.size : Int) := of_decide_eq_true asm
     have hx12 := bt_at a0 (ji9)
     replace p12 := eq_true p12
     replace q12 := eq_true q12
     go_wp2
     go_roundg k1
     case measure => have := HK1.out; omega
     case rel => exact ⟨(x3_1), (ji9), (by first | rfl | (simp; done) | (simp only [← hji9] <;> (first | rfl | simp)) | (simp [*]; done)), H', ⟨by have := HK1.out; omega⟩, ⟨pr HO_3⟩, ⟨bw⟩⟩
    rw [if_neg c8] at H
    have c8b0 : ((bt a0 x9_1) == 62) = false := beq_eq_false_iff_ne.mpr c8
    have c8b1 : ((bt a0 x9_1) != 62) = true := bne_iff_ne.mpr c8
    have H' := Aside0.mk H
    clear H
    have p7 : 0 ≤ (x9_1 : Int) := of_decide_eq_true asm
    have q7 : x9_1 < (a0.size : Int) := of_decide_eq_true asm
    have hx7 := bt_at a0 x9_1
    replace p7 := eq_true p7
    replace q7 := eq_true q7
    go_wp2
    go_roundg k1
    case measure => have := HK1.out; omega
    case rel => exact ⟨(x3_1), (wrap64 (x9_1 + 1)), (rs), H', ⟨by have := HK1.out; omega⟩, ⟨pr HO_3⟩, ⟨bw⟩⟩
   rw [if_neg c4] at H
   have c4b0 := decide_eq_false c4
   clear c4
   obtain rfl := Option.some.inj H
   go_wp2
   go_ret
   exact ⟨_, rs, pr HO_3, bw⟩

/-! ### impl_TurnsOfEach: function 90 -/
def impl_TurnsOfEach_bmp (o : List Int) (j : Int) : List Int := (o.set j.toNat (wrap64 (rd o j + 1))).set (j + 1).toNat (wrap64 (rd (o.set j.toNat (wrap64 (rd o j + 1))) (j + 1) + 1))
theorem impl_TurnsOfEach_bmp_len (o : List Int) (j : Int) : (impl_TurnsOfEach_bmp o j).length = o.length := by simp [impl_TurnsOfEach_bmp]
def impl_TurnsOfEach_clo.l0 : Nat → List Int → Int → List Int → Option (List Int)
  | 0, _, _, _ => none
  | k + 1, ps, i, o => if i < (ps.length : Int) then (if 0 ≤ i then (if 0 ≤ rd ps i then (if rd ps i + 1 < (o.length : Int) then impl_TurnsOfEach_clo.l0 k ps (wrap64 (i + 1)) (impl_TurnsOfEach_bmp o (rd ps i)) else none) else none) else none) else some o
theorem impl_TurnsOfEach_clo.mono_l : ∀ k, (∀ y0 y1 y2, LeO (impl_TurnsOfEach_clo.l0 k y0 y1 y2) (impl_TurnsOfEach_clo.l0 (k + 1) y0 y1 y2))
  | 0 => fun _ _ _ r h => by simp [impl_TurnsOfEach_clo.l0] at h
  | k + 1 => by
    have ih0 := impl_TurnsOfEach_clo.mono_l k
    · intro y0 y1 y2
      unfold impl_TurnsOfEach_clo.l0
      repeat' first
      | (with_reducible exact ih0 _ _ _)
      | (with_reducible exact LeO.refl _)
      | (with_reducible exact LeO.none _)
      | (with_reducible refine LeO.ite ?_ ?_)
      | (with_reducible refine LeO.bind ?_ (fun _ => ?_))
def impl_TurnsOfEach_clo.f (k : Nat) (x : ByteArray) (o : List Int) : Option (List Int) := (impl_facing.f k x).bind fun ps => impl_TurnsOfEach_clo.l0 k ps 0 o
theorem impl_TurnsOfEach_clo.mono : ∀ a0 a1 k, LeO (impl_TurnsOfEach_clo.f k a0 a1) (impl_TurnsOfEach_clo.f (k + 1) a0 a1) := by
  intro a0 a1 k
  unfold impl_TurnsOfEach_clo.f
  exact LeO.bind (impl_facing.mono a0 k) (fun _ => impl_TurnsOfEach_clo.mono_l k _ _ _)
def impl_TurnsOfEach.l0 : Nat → ByteArray → List Int → Option (List Int)
  | 0, _, _ => none
  | k + 1, x, o => (impl_isAtRest.f x).bind fun t => if t = true then some o else (impl_TurnsOfEach_clo.f k x o).bind fun o2 => (impl_tick.f x).bind fun y => impl_TurnsOfEach.l0 k y o2
theorem impl_TurnsOfEach.mono_l : ∀ k, (∀ y0 y1, LeO (impl_TurnsOfEach.l0 k y0 y1) (impl_TurnsOfEach.l0 (k + 1) y0 y1))
  | 0 => fun _ _ r h => by simp [impl_TurnsOfEach.l0] at h
  | k + 1 => by
    have ih0 := impl_TurnsOfEach.mono_l k
    · intro y0 y1
      unfold impl_TurnsOfEach.l0
      repeat' first
      | (with_reducible exact ih0 _ _)
      | (with_reducible exact impl_TurnsOfEach_clo.mono _ _ _)
      | (with_reducible exact LeO.refl _)
      | (with_reducible exact LeO.none _)
      | (with_reducible refine LeO.ite ?_ ?_)
      | (with_reducible refine LeO.bind ?_ (fun _ => ?_))
def impl_TurnsOfEach.f (k : Nat) (a0 : ByteArray) : Option (List Int × Bool) := (impl_isRow.f a0).bind fun t => if t = true then (if a0.size ≤ 4294967296 then (impl_TurnsOfEach.l0 k a0 (List.replicate a0.size 0)).bind fun o => some (o, true) else none) else some ([], false)
theorem impl_TurnsOfEach.mono : ∀ a0 k, LeO (impl_TurnsOfEach.f k a0) (impl_TurnsOfEach.f (k + 1) a0) := by
  intro a0 k
  unfold impl_TurnsOfEach.f
  exact LeO.bind (LeO.refl _) (fun _ => LeO.ite (LeO.ite (LeO.bind (impl_TurnsOfEach.mono_l k _ _) (fun _ => LeO.refl _)) (LeO.none _)) (LeO.refl _))
theorem impl_TurnsOfEach_hist : ∀ (k : Nat) (x : ByteArray) (o r : List Int), impl_TurnsOfEach.l0 k x o = some r → ∃ y, impl_history.l0 k x = some y
  | 0, _, _, _, h => by simp [impl_TurnsOfEach.l0] at h
  | k + 1, x, o, r, h => by
    simp only [impl_TurnsOfEach.l0] at h
    obtain ⟨t, h1, h⟩ := Option.bind_eq_some_iff.mp h
    simp only [impl_history.l0, h1, Option.bind_some]
    cases t with
    | true => exact ⟨x, rfl⟩
    | false =>
      rw [if_neg (by decide)] at h
      obtain ⟨o2, _, h⟩ := Option.bind_eq_some_iff.mp h
      obtain ⟨y, h2, h⟩ := Option.bind_eq_some_iff.mp h
      obtain ⟨z, hz⟩ := impl_TurnsOfEach_hist k y _ r h
      exact ⟨z, by rw [if_neg (by decide), h2]; exact hz⟩
theorem impl_TurnsOfEach_cell {w : World} {go t : Nat} {o : List Int} (h : w.heap[go]? = some (.cells (o.map (Value.int .i64)).toArray t (0, 0))) (j : Int) (h0 : 0 ≤ j) (h1 : j < (o.length : Int)) : w.cell? ⟨go, j.toNat, none⟩ = some (.int .i64 (rd o j)) := by
  rw [blk_cell h]
  have hj : j.toNat < o.length := by omega
  simp [rd, hj]
theorem impl_TurnsOfEach_put {w : World} {go t : Nat} {o : List Int} (h : w.heap[go]? = some (.cells (o.map (Value.int .i64)).toArray t (0, 0))) (j : Nat) (v : Int) : (w.setCell ⟨go, j, none⟩ (.int .i64 v)).heap[go]? = some (.cells ((o.set j v).map (Value.int .i64)).toArray t (0, 0)) :=
  blk_put h j _ (by simp [List.map_set])
set_option maxHeartbeats 8000000 in
set_option maxRecDepth 100000 in
theorem impl_TurnsOfEach_clo.calls (k : Nat) (g go n : Nat) (x : ByteArray) (o r : List Int) (w0 w : World) (hn : n ≤ 4294967296) (hne : g ≠ go) (hwg : w0.heap.size ≤ go) (hB : Below w0.heap.size w0 w)
  (hb : w.heap[g]? = some (.cells #[.slice (some ⟨go, 0, none⟩) n n] 34 (0, 0))) (ho : w.heap[go]? = some (.cells (o.map (Value.int .i64)).toArray 3 (0, 0))) (hl : o.length = n) (h : impl_TurnsOfEach_clo.f k x o = some r) :
  Calls Tryz.prog 116 (#[.string x] ++ #[.pointer (some ⟨g, 0, none⟩)]) w fun e w' => e = .returned (.tuple #[]) ∧ w'.heap[g]? = some (.cells #[.slice (some ⟨go, 0, none⟩) n n] 34 (0, 0)) ∧ w'.heap[go]? = some (.cells (r.map (Value.int .i64)).toArray 3 (0, 0)) ∧ r.length = n ∧ Below w0.heap.size w0 w' := by
 show Calls Tryz.prog 116 #[.string x, .pointer (some ⟨g, 0, none⟩)] w _
 unfold impl_TurnsOfEach_clo.f at h
 obtain ⟨ps, h1, h2⟩ := Option.bind_eq_some_iff.mp h
 have A1 := Aside0.mk h1
 have H' := Aside0.mk h2
 have HN := Aside0.mk hne
 have HNN := Aside0.mk hn
 have HW := Aside0.mk hwg
 have HB := Aside0.mk hB
 have HG := Aside0.mk hb
 have HO := Aside0.mk ho
 have HL := Aside0.mk hl
 have HGL := Aside0.mk (blk_lt ho)
 clear h h1 h2 hn hne hwg hB hb ho hl
 go_enter Tryz.func116, Tryz.ntmps116
 go_wp2_with ((go_at_call 89; (with_reducible refine (impl_facing.calls k x ps _ A1.out).mono ?_); rintro e w3 ⟨v1, rfl, ho0, hb⟩; have HR := Aside0.mk ho0; obtain ⟨Ao, co, eo⟩ := Kd.R_slice HR.out; subst eo; replace HG := Aside0.mk (blk_below HG.out hb); replace HO := Aside0.mk (blk_below HO.out hb); replace HB := Aside0.mk (below_step HB.out hb); clear hb ho0))
 have hps : ∀ i : Int, 0 ≤ i → i < (ps.length : Int) → ∃ ad : Addr, Ao = some ad ∧ go ≠ (ad.add i.toNat).block ∧ w3.cell? (ad.add i.toNat) = some (.int .i64 (rd ps i)) := by
  intro i h0 h1
  obtain ⟨ad, e, hx⟩ := Kd.at_int (Kd.R_reads' HR.out).2.2 i h0 h1
  obtain ⟨g5, c5, e5, gb5, _⟩ := Kd.R_form HR.out (by omega)
  refine ⟨ad, e, ?_, hx⟩
  rw [e] at e5
  injection e5 with e6 _ _
  injection e6 with e6
  subst e6
  have := HGL.out
  have e9 : ((⟨g5, 0, none⟩ : Addr).add i.toNat).block = g5 := by unfold Addr.add; split <;> rfl
  rw [e9]
  omega
 have HP := Aside0.mk hps
 clear hps HR HGL
 go_loopg [8] k (fun kq v8 w' => ∃ (x8 : Int) (o1 : List Int), v8 = .int .i64 x8 ∧ Aside0 (impl_TurnsOfEach_clo.l0 kq ps x8 o1 = some r) ∧ Aside0 (kq ≤ k) ∧ Aside0 (w'.heap[g]? = some (.cells #[.slice (some ⟨go, 0, none⟩) n n] 34 (0, 0))) ∧ Aside0 (w'.heap[go]? = some (.cells (o1.map (Value.int .i64)).toArray 3 (0, 0))) ∧ Aside0 (o1.length = n)
  ∧ Aside0 (∀ i : Int, 0 ≤ i → i < (ps.length : Int) → ∃ ad : Addr, Ao = some ad ∧ go ≠ (ad.add i.toNat).block ∧ w'.cell? (ad.add i.toNat) = some (.int .i64 (rd ps i))) ∧ Aside0 (Below w0.heap.size w0 w'))
 case atStart => exact ⟨0, o, rfl, H', ⟨Nat.le_refl _⟩, HG, HO, HL, HP, HB⟩
 case round =>
  clear H' HG HO HL HP HB
  obtain ⟨x8, o1, rfl, HA, HK1, HG, HO, HL, HP, HB⟩ := hrel
  cases gk with
  | zero => exact absurd HA.out (by simp [impl_TurnsOfEach_clo.l0])
  | succ k1 =>
   have H := HA.out
   clear HA
   simp only [impl_TurnsOfEach_clo.l0] at H
   by_cases c4 : x8 < (ps.length : Int)
   ·rw [if_pos c4] at H
    have c4b0 := decide_eq_true c4
    obtain ⟨c5, H⟩ := oi H
    obtain ⟨c6, H⟩ := oi H
    obtain ⟨c7, H⟩ := oi H
    have H' := Aside0.mk H
    clear H
    obtain ⟨ad0, e1, hnb, hx⟩ := HP.out x8 c5 c4
    cases e1
    have p5 := eq_true c5
    have p4 := eq_true c4
    obtain ⟨j, hj⟩ : ∃ j, j = rd ps x8 := ⟨_, rfl⟩
    rw [← hj] at hx c6 c7
    have hcg : wr.cell? ⟨g, 0, none⟩ = some (.slice (some ⟨go, 0, none⟩) n n) := (blk_cell HG.out 0).trans rfl
    have hjn : j < (n : Int) := by have := HL.out; omega
    have hj1n : j + 1 < (n : Int) := by have := HL.out; omega
    have hn47 := HNN.out
    have q6 := eq_true c6
    have q7 := eq_true hjn
    have hc1 := impl_TurnsOfEach_cell HO.out j c6 (by omega)
    have hf1 : wr.frozen? ⟨go, j.toNat, none⟩ = false := blk_frozen HO.out _
    obtain ⟨v1, hv1⟩ : ∃ v1, IntKind.i64.wrap (rd o1 j + 1) = v1 := ⟨_, rfl⟩
    obtain ⟨j1, hj1⟩ : ∃ j1, IntKind.i64.wrap (j + 1) = j1 := ⟨_, rfl⟩
    have hj1' : j1 = j + 1 := by rw [← hj1, i64_w]; unfold wrap64; omega
    have q8 : (0 ≤ j1) = True := eq_true (by omega)
    have q9 : (j1 < (n : Int)) = True := eq_true (by omega)
    obtain ⟨v2, hv2⟩ : ∃ v2, IntKind.i64.wrap (rd (o1.set j.toNat v1) j1 + 1) = v2 := ⟨_, rfl⟩
    have eB : impl_TurnsOfEach_bmp o1 (rd ps x8) = (o1.set j.toNat v1).set j1.toNat v2 := by
     rw [← hj]
     unfold impl_TurnsOfEach_bmp
     rw [← hj1', ← i64_w (rd o1 j + 1), hv1, ← i64_w (rd (o1.set j.toNat v1) j1 + 1), hv2]
    have HE := Aside0.mk eB
    have HJJ := Aside0.mk hj
    clear eB hj hnb c4 c5 c7 hjn hj1n hn47 hj1'
    go_wp2_with (first | ((with_reducible refine gate_store (t := 3) (p := 17) rfl ?_); refine store_event (t := 3) (p := 17) (v := ?vo_17) (w1 := (wr.setCell ⟨go, j.toNat, none⟩ (.int .i64 v1))) ?hg ?ho ?hn ?hr ?_; (case ho => rfl); (case hg => rfl); (case hn => rfl); (case hr => first | (go_simp; done) | (go_simp; rfl)); intro w8 hw; have hcg : w8.cell? ⟨g, 0, none⟩ = some (.slice (some ⟨go, 0, none⟩) n n) := (by rw [hw]; exact (blk_cell (blk_far HG.out HN.out _) 0).trans rfl); have hc2 : w8.cell? ⟨go, j1.toNat, none⟩ = some (.int .i64 (rd (o1.set j.toNat v1) j1)) := (by rw [hw]; exact impl_TurnsOfEach_cell (impl_TurnsOfEach_put HO.out _ _) j1 (of_eq_true q8) (by rw [List.length_set, HL.out]; exact of_eq_true q9)); have hf2 : w8.frozen? ⟨go, j1.toNat, none⟩ = false := (by rw [hw]; exact blk_frozen (impl_TurnsOfEach_put HO.out _ _) _); have HW8 := Aside0.mk hw; clear hw) | ((with_reducible refine gate_store (t := 3) (p := 24) rfl ?_); refine store_event (t := 3) (p := 24) (v := ?vo_24) (w1 := (w8.setCell ⟨go, j1.toNat, none⟩ (.int .i64 v2))) ?hg ?ho ?hn ?hr ?_; (case ho => rfl); (case hg => rfl); (case hn => rfl); (case hr => first | (go_simp; done) | (go_simp; rfl)); intro w9 hw; have HW9 := Aside0.mk hw; clear hw))
    have k9 : w9.heap[go]? = some (.cells ((impl_TurnsOfEach_bmp o1 (rd ps x8)).map (Value.int .i64)).toArray 3 (0, 0)) := by
     rw [HW9.out, HE.out, HW8.out]
     exact impl_TurnsOfEach_put (impl_TurnsOfEach_put HO.out _ _) _ _
    have k8 : w9.heap[g]? = some (.cells #[.slice (some ⟨go, 0, none⟩) n n] 34 (0, 0)) := by
     rw [HW9.out, HW8.out]
     exact blk_far (blk_far HG.out HN.out _) HN.out _
    have k7 : Below w0.heap.size w0 w9 := by
     rw [HW9.out, HW8.out]
     exact below_set (below_set HB.out HW.out) HW.out
    have k6 : ∀ i : Int, 0 ≤ i → i < (ps.length : Int) → ∃ ad : Addr, some ad0 = some ad ∧ go ≠ (ad.add i.toNat).block ∧ w9.cell? (ad.add i.toNat) = some (.int .i64 (rd ps i)) := by
     intro i h0 h1
     obtain ⟨ad, e, hb2, hx2⟩ := HP.out i h0 h1
     refine ⟨ad, e, hb2, ?_⟩
     have e1 : ∀ q : Nat, (⟨go, q, none⟩ : Addr) ≠ ad.add i.toNat := fun q e => hb2 (congrArg Addr.block e)
     rw [HW9.out, HW8.out, World.cell?_setCell_other _ _ _ _ (e1 _), World.cell?_setCell_other _ _ _ _ (e1 _)]
     exact hx2
    have k5 : (impl_TurnsOfEach_bmp o1 (rd ps x8)).length = n := by rw [impl_TurnsOfEach_bmp_len, HL.out]
    go_roundg k1
    case measure => have := HK1.out; omega
    case rel => exact ⟨(wrap64 (x8 + 1)), _, (rs), H', ⟨by have := HK1.out; omega⟩, ⟨k8⟩, ⟨k9⟩, ⟨k5⟩, ⟨k6⟩, ⟨k7⟩⟩
   rw [if_neg c4] at H
   have c4b0 := decide_eq_false c4
   clear c4
   obtain rfl := Option.some.inj H
   clear H
   go_wp2
   go_end0
   exact ⟨rfl, HG.out, HO.out, HL.out, HB.out⟩
theorem impl_TurnsOfEach_made (n : Nat) : madeCells #[Value.int .i64 0] n = ((List.replicate n (0 : Int)).map (Value.int .i64)).toArray := by
  apply Array.ext
  · simp [madeCells]
  · intro i h1 h2
    simp [madeCells, Nat.mod_one]
set_option maxHeartbeats 8000000 in
set_option maxRecDepth 100000 in
theorem impl_TurnsOfEach.calls (k : Nat) (a0 : ByteArray) (r1 : List Int) (r2 : Bool) (w : World) (hm : Dr.Tab w) (h : impl_TurnsOfEach.f k a0 = some (r1, r2)) :
  Calls Tryz.prog 90 #[.string a0] w fun e w' => ∃ v0_ : Value, e = .returned (.tuple #[v0_, .bool r2]) ∧ Kd.R (Kd.int .i64) 3 w' w.heap.size (fun _ => True) v0_ r1 ∧ Below w.heap.size w w' := by
 unfold impl_TurnsOfEach.f at h
 obtain ⟨t, h1, h⟩ := Option.bind_eq_some_iff.mp h
 have A1 := Aside0.mk h1
 have HMM := Aside0.mk hm
 have HB := Aside0.mk (Below.refl w.heap.size w)
 clear h1 hm
 cases t with
 | false =>
  rw [if_neg (by decide)] at h
  simp only [Option.some.injEq, Prod.mk.injEq] at h
  obtain ⟨rfl, rfl⟩ := h
  go_enter Tryz.func90, Tryz.ntmps90
  go_wp2_with ((go_at_call 42; (with_reducible refine (impl_isRow.calls a0 false _ A1.out).mono ?_); rintro e w3 ⟨rfl, hb⟩; replace HB := Aside0.mk (below_step HB.out hb); clear hb))
  go_ret2
  exact ⟨_, rfl, Kd.R_nil _ _ _ _ _, HB.out⟩
 | true =>
  rw [if_pos rfl] at h
  by_cases hs : a0.size ≤ 4294967296
  ·rw [if_pos hs] at h
   obtain ⟨o, h2, h⟩ := Option.bind_eq_some_iff.mp h
   simp only [Option.some.injEq, Prod.mk.injEq] at h
   obtain ⟨rfl, rfl⟩ := h
   obtain ⟨y, hy⟩ := impl_TurnsOfEach_hist k a0 _ o h2
   have H := Aside0.mk h2
   have HY := Aside0.mk hy
   have HN := Aside0.mk hs
   have hmk := print_make (P := Tryz.prog) 34 3 .i64 8 Tryz.underlying34 (by kernel_rfl) (by omega) a0.size (by omega)
   have HM := Aside0.mk hmk
   clear h2 hy hs hmk
   have p1 : decide ((a0.size : Int) < 0) = false := decide_eq_false (by omega)
   have hW : ∀ w3 : World, Below w.heap.size w w3 → ((fun (x : ByteArray) (w' : World) => ∃ (kq : Nat) (o1 : List Int), impl_TurnsOfEach.l0 kq x o1 = some o ∧ w'.heap[w3.heap.size + 1]? = some (.cells #[.slice (some ⟨w3.heap.size, 0, none⟩) a0.size a0.size] 34 (0, 0)) ∧ w'.heap[w3.heap.size]? = some (.cells (o1.map (Value.int .i64)).toArray 3 (0, 0)) ∧ o1.length = a0.size ∧ Below w.heap.size w w') a0 ((w3.alloc (.cells (madeCells #[Value.int .i64 0] a0.size) 3)).alloc (.cells #[.slice (some ⟨w3.heap.size, 0, none⟩) a0.size a0.size] 34))) := by
    intro w3 hb
    refine ⟨k, _, H.out, ?_, ?_, by simp, below_alloc (below_alloc hb _) _⟩
    ·have := blk_new (w3.alloc (.cells (madeCells #[Value.int .i64 0] a0.size) 3)) (.cells #[.slice (some ⟨w3.heap.size, 0, none⟩) a0.size a0.size] 34)
     rw [show (w3.alloc (.cells (madeCells #[Value.int .i64 0] a0.size) 3)).heap.size = w3.heap.size + 1 by simp] at this
     exact this
    rw [← impl_TurnsOfEach_made]
    exact blk_alloc (blk_new w3 _) _
   have hstep : ∀ w3 : World, w.heap.size ≤ w3.heap.size → ∀ (x y : ByteArray) (w' : World), (∃ (kq : Nat) (o1 : List Int), impl_TurnsOfEach.l0 kq x o1 = some o ∧ w'.heap[w3.heap.size + 1]? = some (.cells #[.slice (some ⟨w3.heap.size, 0, none⟩) a0.size a0.size] 34 (0, 0)) ∧ w'.heap[w3.heap.size]? = some (.cells (o1.map (Value.int .i64)).toArray 3 (0, 0)) ∧ o1.length = a0.size ∧ Below w.heap.size w w') → impl_isAtRest.f x = some false → impl_tick.f x = some y →
     Calls Tryz.prog 116 (#[.string x] ++ #[.pointer (some ⟨w3.heap.size + 1, 0, none⟩)]) w' fun e w'' => e = .returned (.tuple #[]) ∧ ((fun (x : ByteArray) (w' : World) => ∃ (kq : Nat) (o1 : List Int), impl_TurnsOfEach.l0 kq x o1 = some o ∧ w'.heap[w3.heap.size + 1]? = some (.cells #[.slice (some ⟨w3.heap.size, 0, none⟩) a0.size a0.size] 34 (0, 0)) ∧ w'.heap[w3.heap.size]? = some (.cells (o1.map (Value.int .i64)).toArray 3 (0, 0)) ∧ o1.length = a0.size ∧ Below w.heap.size w w') y w'') := by
    intro w3 hle x y w1 ⟨kq, o1, h1, h2, h3, h4, h5⟩ hr ht
    match kq, h1 with
    | 0, h1 => simp [impl_TurnsOfEach.l0] at h1
    | kq + 1, h1 =>
     simp only [impl_TurnsOfEach.l0, hr, Option.bind_some] at h1
     rw [if_neg (by decide)] at h1
     obtain ⟨o2, hc, h1⟩ := Option.bind_eq_some_iff.mp h1
     rw [ht, Option.bind_some] at h1
     refine (impl_TurnsOfEach_clo.calls kq (w3.heap.size + 1) w3.heap.size a0.size x o1 o2 w w1 HN.out (by omega) hle h5 h2 h3 h4 hc).mono ?_
     rintro e w2 ⟨rfl, k1, k2, k3, k4⟩
     exact ⟨rfl, kq, o2, h1, k1, k2, k3, k4⟩
   have HS := Aside0.mk hstep
   have HW := Aside0.mk hW
   clear hstep hW
   go_enter Tryz.func90, Tryz.ntmps90
   go_wp2_with (first | (go_at_call 42; (with_reducible refine (impl_isRow.calls a0 true _ A1.out).mono ?_); rintro e w3 ⟨rfl, hb⟩; replace HB := Aside0.mk (below_step HB.out hb); clear hb) | simp only [HM.out] | (go_at_call 114; refine (impl_history.calls k 116 Tryz.f116 #[.pointer (some ⟨w3.heap.size + 1, 0, none⟩)] Tryz.func116 (by kernel_rfl) (by kernel_rfl)
  (fun x w' => ∃ (kq : Nat) (o1 : List Int), impl_TurnsOfEach.l0 kq x o1 = some o ∧ w'.heap[w3.heap.size + 1]? = some (.cells #[.slice (some ⟨w3.heap.size, 0, none⟩) a0.size a0.size] 34 (0, 0)) ∧ w'.heap[w3.heap.size]? = some (.cells (o1.map (Value.int .i64)).toArray 3 (0, 0)) ∧ o1.length = a0.size ∧ Below w.heap.size w w')
  (fun x w' ⟨_, _, _, _, _, _, hB⟩ => HMM.out.below hB) (fun x w1 w2 ⟨kq, n, h1, h2, h3, h4, h5⟩ hb => ⟨kq, n, h1, blk_below h2 hb, blk_below h3 hb, h4, below_step h5 hb⟩) (HS.out w3 HB.out.size) a0 y _ (HW.out w3 HB.out) HY.out).mono ?_; rintro e w' ⟨rfl, ⟨kq, o1, h1, h2, h3, h4, h5⟩, hr⟩; have hcg : w'.cell? ⟨w3.heap.size + 1, 0, none⟩ = some (.slice (some ⟨w3.heap.size, 0, none⟩) a0.size a0.size) := (blk_cell h2 0).trans rfl))
   have ho : o1 = o := by
    match kq, h1 with
    | 0, h1 => simp [impl_TurnsOfEach.l0] at h1
    | kq + 1, h1 =>
     simp only [impl_TurnsOfEach.l0, hr, Option.bind_some, if_true] at h1
     exact Option.some.inj h1
   subst ho
   go_ret2
   refine ⟨.slice (some ⟨w3.heap.size, 0, none⟩) a0.size a0.size, rfl, ?_, h5⟩
   refine Kd.R_of_own ⟨by simp [encs], .inr ⟨w3.heap.size, a0.size, _, by rw [h4], HB.out.size, h3, by omega, by have := HN.out; unfold maxLen; omega, by simp [h4], ?_⟩⟩ (fun _ _ => trivial)
   simp [encs, List.take_of_length_le]
  rw [if_neg hs] at h
  cases h

/-! ### impl_Clue_told: function 65 -/
def impl_Clue_told.f (k : Nat) (a0_0 : Int) (a0_1 : Int) (a0_2 : Int) (a0_3 : Int) (a1 : ByteArray) : Option (Int × Int × Int × Int) := if a0_0 = 0 then ((impl_RowAfter.f k a1 a0_2).bind fun bt128 => (if 0 ≤ a0_1 then (if a0_1 < (bt128.1.size : Int) then (if (bt bt128.1 a0_1) = 62 then (some (a0_0, a0_1, a0_2, 1)) else (some (a0_0, a0_1, a0_2, 0))) else (none)) else (none))) else (if a0_0 = 1 then ((strings_Count.f a1 (⟨#[62]⟩ : ByteArray)).bind fun t130 => (some (a0_0, a0_1, a0_2, t130))) else (if a0_0 = 2 then ((impl_ticksToRest.f k a1).bind fun t131 => (some (a0_0, a0_1, a0_2, t131))) else (if a0_0 = 3 then ((impl_facing.f k a1).bind fun t132 => (some (a0_0, a0_1, a0_2, (t132.length : Int)))) else (if a0_0 = 4 then ((impl_TurnsOfEach.f k a1).bind fun bt135 => (if 0 ≤ a0_1 then (if a0_1 < (bt135.1.length : Int) then (some (a0_0, a0_1, a0_2, rd bt135.1 a0_1)) else (none)) else (none))) else (some (a0_0, a0_1, a0_2, a0_3))))))
theorem impl_Clue_told.mono : ∀ a0 a1 a2 a3 a4 k, LeO (impl_Clue_told.f k a0 a1 a2 a3 a4) (impl_Clue_told.f (k + 1) a0 a1 a2 a3 a4) := by
  intro a0 a1 a2 a3 a4 k
  unfold impl_Clue_told.f
  repeat' first
      | (with_reducible exact impl_RowAfter.mono _ _ _)
      | (with_reducible exact impl_TurnsOfEach.mono _ _)
      | (with_reducible exact impl_facing.mono _ _)
      | (with_reducible exact impl_ticksToRest.mono _ _)
      | (with_reducible exact LeO.refl _)
      | (with_reducible exact LeO.none _)
      | (with_reducible refine LeO.ite ?_ ?_)
      | (with_reducible refine LeO.bind ?_ (fun _ => ?_))
      | exact impl_RowAfter.mono _ _ _
      | exact impl_TurnsOfEach.mono _ _
      | exact impl_facing.mono _ _
      | exact impl_ticksToRest.mono _ _
      | exact LeO.none _
      | refine LeO.ite ?_ ?_
      | refine LeO.bind ?_ (fun _ => ?_)
set_option maxHeartbeats 8000000 in
set_option maxRecDepth 100000 in
theorem impl_Clue_told.calls (k : Nat) (a0_0 : Int) (a0_1 : Int) (a0_2 : Int) (a0_3 : Int) (a1 : ByteArray) (r1 : Int) (r2 : Int) (r3 : Int) (r4 : Int) (w : World) (hm : Dr.Tab w) (h : impl_Clue_told.f k a0_0 a0_1 a0_2 a0_3 a1 = some (r1, r2, r3, r4)) :
  Calls Tryz.prog 65 #[.agg #[.int .i64 a0_0, .int .i64 a0_1, .int .i64 a0_2, .int .i64 a0_3], .string a1] w fun e w' => e = .returned (.agg #[.int .i64 r1, .int .i64 r2, .int .i64 r3, .int .i64 r4]) ∧ Below w.heap.size w w' := by
 have hu42 := Tryz.underlying42
 have HB := Aside0.mk (Below.refl w.heap.size w)
 have HMM := Aside0.mk hm
 clear hm
 unfold impl_Clue_told.f at h
 have H := h
 clear h
 by_cases c3 : a0_0 = 0
 ·rw [if_pos c3] at H
  have c3b0 : (a0_0 == 0) = true := beq_iff_eq.mpr c3
  have c3b1 : (a0_0 != 0) = false := bne_eq_false_iff_eq.mpr c3
  clear c3
  obtain ⟨⟨t128, t129⟩, A4, H⟩ := ob H
  (try dsimp only at H)
  obtain ⟨c5, H⟩ := oi H
  have c5b0 := decide_eq_true c5
  clear c5
  obtain ⟨c6, H⟩ := oi H
  have c6b0 := decide_eq_true c6
  clear c6
  go_enter Tryz.func65, Tryz.ntmps65
  go_wp2_with (first | ((with_reducible refine gd 2 ?_); refine bx 2 42 #[.int .i64 a0_0, .int .i64 a0_1, .int .i64 a0_2, .int .i64 a0_3] ?_; intro gb126 hg w9 hbox hb; have BK126 := hbox; have GW126 := gs hg; have GE126 := gs hg; replace HB := bs hb; clear hb hbox hg) | ((with_reducible refine gd 4 ?_); refine bx 4 42 #[.int .i64 0, .int .i64 0, .int .i64 0, .int .i64 0] ?_; intro gb127 hg w10 hbox hb; have BK127 := hbox; have GW127 := gs hg; have GE127 := gs hg; replace HB := bs hb; have ⟨NB126_127, NB127_126⟩ := nn BK126 hg; replace BK126 := nk BK126 hb; clear hb hbox hg; have hnb11 := nb NB126_127; have hz12 := z4 BK126) | ((with_reducible refine gc 86 ?_); refine gl (some 17) Tryz.func86 #[.string a1, .int .i64 a0_2] ?_; (with_reducible refine (impl_RowAfter.calls k a1 a0_2 t128 t129 _ ?_ A4.out).mono ?_); exact Dr.mm HMM; rintro e w13 ⟨rfl, hb⟩; refine ⟨_, rfl, ?_⟩; replace BK126 := nk BK126 hb; replace BK127 := nk BK127 hb; replace HB := bs hb; (try clear hb); have hz14 := z4 BK126; have p7 : 0 ≤ (a0_1 : Int) := of_decide_eq_true asm; have q7 : a0_1 < (t128.size : Int) := of_decide_eq_true asm; have hx7 := bt_at t128 a0_1; replace p7 := eq_true p7; replace q7 := eq_true q7; have hz15 := z4 BK127; refine halt ?_))
  by_cases c8 : (bt t128 a0_1) = 62
  ·rw [if_pos c8] at H
   have c8b0 : ((bt t128 a0_1) == 62) = true := beq_iff_eq.mpr c8
   have c8b1 : ((bt t128 a0_1) != 62) = false := bne_eq_false_iff_eq.mpr c8
   clear c8
   simp only [Option.some.injEq, Prod.mk.injEq] at H
   obtain ⟨rfl, rfl, rfl, rfl⟩ := H
   refine Aside0.mk ?_
   try go_wp2
   refine bodyPost_ret (results_cell_row rfl _ _ gb127 42 #[.int .i64 a0_0, .int .i64 a0_1, .int .i64 a0_2, .int .i64 1] (0, 0) _ rfl (pz BK127) Tryz.underlying42 rfl (by kernel_rfl)) rfl ?_
   exact ⟨rs, bw⟩
  rw [if_neg c8] at H
  have c8b0 : ((bt t128 a0_1) == 62) = false := beq_eq_false_iff_ne.mpr c8
  have c8b1 : ((bt t128 a0_1) != 62) = true := bne_iff_ne.mpr c8
  simp only [Option.some.injEq, Prod.mk.injEq] at H
  obtain ⟨rfl, rfl, rfl, rfl⟩ := H
  refine Aside0.mk ?_
  try go_wp2
  refine bodyPost_ret (results_cell_row rfl _ _ gb127 42 #[.int .i64 a0_0, .int .i64 a0_1, .int .i64 a0_2, .int .i64 0] (0, 0) _ rfl (pz BK127) Tryz.underlying42 rfl (by kernel_rfl)) rfl ?_
  exact ⟨rs, bw⟩
 rw [if_neg c3] at H
 have c3b0 : (a0_0 == 0) = false := beq_eq_false_iff_ne.mpr c3
 have c3b1 : (a0_0 != 0) = true := bne_iff_ne.mpr c3
 by_cases c23 : a0_0 = 1
 ·rw [if_pos c23] at H
  have c23b0 : (a0_0 == 1) = true := beq_iff_eq.mpr c23
  have c23b1 : (a0_0 != 1) = false := bne_eq_false_iff_eq.mpr c23
  clear c23
  obtain ⟨t130, A24, H⟩ := ob H
  (try dsimp only at H)
  simp only [Option.some.injEq, Prod.mk.injEq] at H
  obtain ⟨rfl, rfl, rfl, rfl⟩ := H
  go_enter Tryz.func65, Tryz.ntmps65
  go_wp2_with (first | ((with_reducible refine gd 2 ?_); refine bx 2 42 #[.int .i64 a0_0, .int .i64 a0_1, .int .i64 a0_2, .int .i64 a0_3] ?_; intro gb126 hg w25 hbox hb; have BK126 := hbox; have GW126 := gs hg; have GE126 := gs hg; replace HB := bs hb; clear hb hbox hg) | ((with_reducible refine gd 4 ?_); refine bx 4 42 #[.int .i64 0, .int .i64 0, .int .i64 0, .int .i64 0] ?_; intro gb127 hg w26 hbox hb; have BK127 := hbox; have GW127 := gs hg; have GE127 := gs hg; replace HB := bs hb; have ⟨NB126_127, NB127_126⟩ := nn BK126 hg; replace BK126 := nk BK126 hb; clear hb hbox hg; have hnb27 := nb NB126_127; have hz28 := z4 BK126) | ((with_reducible refine gc 87 ?_); refine gl (some 30) Tryz.func87 #[.string a1, .string (⟨#[62]⟩ : ByteArray)] ?_; (with_reducible refine (strings_Count.calls a1 (⟨#[62]⟩ : ByteArray) t130 _ A24.out).mono ?_); rintro e w29 ⟨rfl, hb⟩; refine ⟨_, rfl, ?_⟩; replace BK126 := nk BK126 hb; replace BK127 := nk BK127 hb; replace HB := bs hb; (try clear hb); have hz30 := z4 BK126; have hz31 := z4 BK127))
  refine bodyPost_ret (results_cell_row rfl _ _ gb127 42 #[.int .i64 a0_0, .int .i64 a0_1, .int .i64 a0_2, .int .i64 t130] (0, 0) _ rfl (pz BK127) Tryz.underlying42 rfl (by kernel_rfl)) rfl ?_
  exact ⟨rs, bw⟩
 rw [if_neg c23] at H
 have c23b0 : (a0_0 == 1) = false := beq_eq_false_iff_ne.mpr c23
 have c23b1 : (a0_0 != 1) = true := bne_iff_ne.mpr c23
 by_cases c32 : a0_0 = 2
 ·rw [if_pos c32] at H
  have c32b0 : (a0_0 == 2) = true := beq_iff_eq.mpr c32
  have c32b1 : (a0_0 != 2) = false := bne_eq_false_iff_eq.mpr c32
  clear c32
  obtain ⟨t131, A33, H⟩ := ob H
  (try dsimp only at H)
  simp only [Option.some.injEq, Prod.mk.injEq] at H
  obtain ⟨rfl, rfl, rfl, rfl⟩ := H
  go_enter Tryz.func65, Tryz.ntmps65
  go_wp2_with (first | ((with_reducible refine gd 2 ?_); refine bx 2 42 #[.int .i64 a0_0, .int .i64 a0_1, .int .i64 a0_2, .int .i64 a0_3] ?_; intro gb126 hg w34 hbox hb; have BK126 := hbox; have GW126 := gs hg; have GE126 := gs hg; replace HB := bs hb; clear hb hbox hg) | ((with_reducible refine gd 4 ?_); refine bx 4 42 #[.int .i64 0, .int .i64 0, .int .i64 0, .int .i64 0] ?_; intro gb127 hg w35 hbox hb; have BK127 := hbox; have GW127 := gs hg; have GE127 := gs hg; replace HB := bs hb; have ⟨NB126_127, NB127_126⟩ := nn BK126 hg; replace BK126 := nk BK126 hb; clear hb hbox hg; have hnb36 := nb NB126_127; have hz37 := z4 BK126) | ((with_reducible refine gc 88 ?_); refine gl (some 35) Tryz.func88 #[.string a1] ?_; (with_reducible refine (impl_ticksToRest.calls k a1 t131 _ ?_ A33.out).mono ?_); exact Dr.mm HMM; rintro e w38 ⟨rfl, hb⟩; refine ⟨_, rfl, ?_⟩; replace BK126 := nk BK126 hb; replace BK127 := nk BK127 hb; replace HB := bs hb; (try clear hb); have hz39 := z4 BK126; have hz40 := z4 BK127))
  refine bodyPost_ret (results_cell_row rfl _ _ gb127 42 #[.int .i64 a0_0, .int .i64 a0_1, .int .i64 a0_2, .int .i64 t131] (0, 0) _ rfl (pz BK127) Tryz.underlying42 rfl (by kernel_rfl)) rfl ?_
  exact ⟨rs, bw⟩
 rw [if_neg c32] at H
 have c32b0 : (a0_0 == 2) = false := beq_eq_false_iff_ne.mpr c32
 have c32b1 : (a0_0 != 2) = true := bne_iff_ne.mpr c32
 by_cases c41 : a0_0 = 3
 ·rw [if_pos c41] at H
  have c41b0 : (a0_0 == 3) = true := beq_iff_eq.mpr c41
  have c41b1 : (a0_0 != 3) = false := bne_eq_false_iff_eq.mpr c41
  clear c41
  obtain ⟨t132, A42, H⟩ := ob H
  (try dsimp only at H)
  simp only [Option.some.injEq, Prod.mk.injEq] at H
  obtain ⟨rfl, rfl, rfl, rfl⟩ := H
  go_enter Tryz.func65, Tryz.ntmps65
  go_wp2_with (first | ((with_reducible refine gd 2 ?_); refine bx 2 42 #[.int .i64 a0_0, .int .i64 a0_1, .int .i64 a0_2, .int .i64 a0_3] ?_; intro gb126 hg w43 hbox hb; have BK126 := hbox; have GW126 := gs hg; have GE126 := gs hg; replace HB := bs hb; clear hb hbox hg) | ((with_reducible refine gd 4 ?_); refine bx 4 42 #[.int .i64 0, .int .i64 0, .int .i64 0, .int .i64 0] ?_; intro gb127 hg w44 hbox hb; have BK127 := hbox; have GW127 := gs hg; have GE127 := gs hg; replace HB := bs hb; have ⟨NB126_127, NB127_126⟩ := nn BK126 hg; replace BK126 := nk BK126 hb; clear hb hbox hg; have hnb45 := nb NB126_127; have hz46 := z4 BK126) | ((with_reducible refine gc 89 ?_); refine gl (some 40) Tryz.func89 #[.string a1] ?_; (with_reducible refine (impl_facing.calls k a1 t132 _ A42.out).mono ?_); rintro e w47 ⟨v133, rfl, ho0, hb⟩; refine ⟨_, rfl, ?_⟩; have HO134 := Aside0.mk (Kd.R_lower ho0 (below_size bw)); replace BK126 := nk BK126 hb; replace BK127 := nk BK127 hb; replace HB := bs hb; (try clear hb); (try clear ho0); obtain ⟨Ao48, co48, eo48⟩ := Kd.R_slice HO134.out; subst eo48; have hz49 := z4 BK126; have hz50 := z4 BK127))
  refine bodyPost_ret (results_cell_row rfl _ _ gb127 42 #[.int .i64 a0_0, .int .i64 a0_1, .int .i64 a0_2, .int .i64 (t132.length : Int)] (0, 0) _ rfl (pz BK127) Tryz.underlying42 rfl (by kernel_rfl)) rfl ?_
  exact ⟨rs, bw⟩
 rw [if_neg c41] at H
 have c41b0 : (a0_0 == 3) = false := beq_eq_false_iff_ne.mpr c41
 have c41b1 : (a0_0 != 3) = true := bne_iff_ne.mpr c41
 go_enter Tryz.func65, Tryz.ntmps65
 go_wp2_with (((with_reducible refine gd 2 ?_); refine bx 2 42 #[.int .i64 a0_0, .int .i64 a0_1, .int .i64 a0_2, .int .i64 a0_3] ?_; intro gb126 hg w55 hbox hb; have BK126 := hbox; have GW126 := gs hg; have GE126 := gs hg; replace HB := bs hb; clear hb hbox hg; refine halt ?_))
 by_cases c51 : a0_0 = 4
 ·rw [if_pos c51] at H
  have c51b0 : (a0_0 == 4) = true := beq_iff_eq.mpr c51
  have c51b1 : (a0_0 != 4) = false := bne_eq_false_iff_eq.mpr c51
  clear c51
  obtain ⟨⟨t135, t136⟩, A52, H⟩ := ob H
  (try dsimp only at H)
  obtain ⟨c53, H⟩ := oi H
  have c53b0 := decide_eq_true c53
  clear c53
  obtain ⟨c54, H⟩ := oi H
  have c54b0 := decide_eq_true c54
  clear c54
  simp only [Option.some.injEq, Prod.mk.injEq] at H
  obtain ⟨rfl, rfl, rfl, rfl⟩ := H
  refine Aside0.mk ?_
  try go_wp2_with (first | ((with_reducible refine gd 4 ?_); refine bx 4 42 #[.int .i64 0, .int .i64 0, .int .i64 0, .int .i64 0] ?_; intro gb127 hg w56 hbox hb; have BK127 := hbox; have GW127 := gs hg; have GE127 := gs hg; replace HB := bs hb; have ⟨NB126_127, NB127_126⟩ := nn BK126 hg; replace BK126 := nk BK126 hb; clear hb hbox hg; have hnb57 := nb NB126_127; have hz58 := z4 BK126) | ((with_reducible refine gc 90 ?_); refine gl (some 47) Tryz.func90 #[.string a1] ?_; (with_reducible refine (impl_TurnsOfEach.calls k a1 t135 t136 _ ?_ A52.out).mono ?_); exact Dr.mm HMM; rintro e w59 ⟨v137, rfl, ho0, hb⟩; refine ⟨_, rfl, ?_⟩; have HO138 := Aside0.mk (Kd.R_lower ho0 (below_size bw)); replace BK126 := nk BK126 hb; replace BK127 := nk BK127 hb; replace HB := bs hb; (try clear hb); (try clear ho0); have hz60 := z4 BK126; obtain ⟨Ao61, co61, eo61⟩ := Kd.R_slice HO138.out; subst eo61; have p139 : 0 ≤ (a0_1 : Int) := of_decide_eq_true asm; have q139 : a0_1 < (t135.length : Int) := of_decide_eq_true asm; obtain ⟨ad139, e139, hx139_0⟩ := Kd.at_int (Kd.R_reads' HO138.out).2.2 a0_1 p139 q139; cases e139; replace p139 := eq_true p139; replace q139 := eq_true q139; have hz62 := z4 BK127))
  refine bodyPost_ret (results_cell_row rfl _ _ gb127 42 #[.int .i64 a0_0, .int .i64 a0_1, .int .i64 a0_2, .int .i64 (rd t135 a0_1)] (0, 0) _ rfl (pz BK127) Tryz.underlying42 rfl (by kernel_rfl)) rfl ?_
  exact ⟨rs, bw⟩
 rw [if_neg c51] at H
 have c51b0 : (a0_0 == 4) = false := beq_eq_false_iff_ne.mpr c51
 have c51b1 : (a0_0 != 4) = true := bne_iff_ne.mpr c51
 simp only [Option.some.injEq, Prod.mk.injEq] at H
 obtain ⟨rfl, rfl, rfl, rfl⟩ := H
 refine Aside0.mk ?_
 try go_wp2_with (((with_reducible refine gd 4 ?_); refine bx 4 42 #[.int .i64 0, .int .i64 0, .int .i64 0, .int .i64 0] ?_; intro gb127 hg w64 hbox hb; have BK127 := hbox; have GW127 := gs hg; have GE127 := gs hg; replace HB := bs hb; have ⟨NB126_127, NB127_126⟩ := nn BK126 hg; replace BK126 := nk BK126 hb; clear hb hbox hg; have hnb65 := nb NB126_127; have hz66 := z4 BK126; have hz67 := z4 BK127))
 refine bodyPost_ret (results_cell_row rfl _ _ gb127 42 #[.int .i64 a0_0, .int .i64 a0_1, .int .i64 a0_2, .int .i64 a0_3] (0, 0) _ rfl (pz BK127) Tryz.underlying42 rfl (by kernel_rfl)) rfl ?_
 exact ⟨rs, bw⟩

/-! ### impl_Clue_fits: function 44 -/
def impl_Clue_fits.f (k : Nat) (a0_0 : Int) (a0_1 : Int) (a0_2 : Int) (a0_3 : Int) (a1 : ByteArray) : Option (Bool) := (impl_Clue_told.f k a0_0 a0_1 a0_2 a0_3 a1).bind fun bt141 => (some (bt141.1 == a0_0 && (bt141.2.1 == a0_1 && (bt141.2.2.1 == a0_2 && (bt141.2.2.2 == a0_3)))))
theorem impl_Clue_fits.mono : ∀ a0 a1 a2 a3 a4 k, LeO (impl_Clue_fits.f k a0 a1 a2 a3 a4) (impl_Clue_fits.f (k + 1) a0 a1 a2 a3 a4) := by
  intro a0 a1 a2 a3 a4 k
  unfold impl_Clue_fits.f
  repeat' first
      | (with_reducible exact impl_Clue_told.mono _ _ _ _ _ _)
      | (with_reducible exact LeO.refl _)
      | (with_reducible exact LeO.none _)
      | (with_reducible refine LeO.ite ?_ ?_)
      | (with_reducible refine LeO.bind ?_ (fun _ => ?_))
      | exact impl_Clue_told.mono _ _ _ _ _ _
      | exact LeO.none _
      | refine LeO.ite ?_ ?_
      | refine LeO.bind ?_ (fun _ => ?_)
set_option maxHeartbeats 8000000 in
set_option maxRecDepth 100000 in
theorem impl_Clue_fits.calls (k : Nat) (a0_0 : Int) (a0_1 : Int) (a0_2 : Int) (a0_3 : Int) (a1 : ByteArray) (r : Bool) (w : World) (hm : Dr.Tab w) (h : impl_Clue_fits.f k a0_0 a0_1 a0_2 a0_3 a1 = some r) :
  Calls Tryz.prog 44 #[.agg #[.int .i64 a0_0, .int .i64 a0_1, .int .i64 a0_2, .int .i64 a0_3], .string a1] w fun e w' => e = .returned (.bool r) ∧ Below w.heap.size w w' := by
 have hu42 := Tryz.underlying42
 have HB := Aside0.mk (Below.refl w.heap.size w)
 have HMM := Aside0.mk hm
 clear hm
 unfold impl_Clue_fits.f at h
 have H := h
 clear h
 obtain ⟨⟨t141, t142, t143, t144⟩, A3, H⟩ := ob H
 (try dsimp only at H)
 obtain rfl := Option.some.inj H
 go_enter Tryz.func44, Tryz.ntmps44
 try go_wp2_with (first | ((with_reducible refine gd 2 ?_); refine bx 2 42 #[.int .i64 a0_0, .int .i64 a0_1, .int .i64 a0_2, .int .i64 a0_3] ?_; intro gb140 hg w4 hbox hb; have BK140 := hbox; have GW140 := gs hg; have GE140 := gs hg; replace HB := bs hb; clear hb hbox hg))
 replace BK140 := Aside0.mk (blk_drew BK140.out)
 replace HB := Aside0.mk (below_drew1 HB.out)
 refine start_ (n := 6) (S := fun w' => w'.cell? ⟨gb140, 0, none⟩ = some (.int .i64 a0_0) ∧ w'.cell? ⟨gb140, 1, none⟩ = some (.int .i64 a0_1) ∧ w'.cell? ⟨gb140, 2, none⟩ = some (.int .i64 a0_2) ∧ w'.cell? ⟨gb140, 3, none⟩ = some (.int .i64 a0_3)) (ds := []) (tb 6 0) (by kernel_rfl) rfl rfl ⟨ec BK140, ec BK140, ec BK140, ec BK140⟩ (fun hHeld => ?_)
 generalize w4.drew = w5 at BK140 HB hHeld ⊢
 refine pure_ (i := 1) (N := some 6) (v := ?_) (a' := ?_) (tb 6 2) rfl rfl (by kernel_rfl) (fun _ _ _ h => h) (Or.inl ⟨by rfl, ?_⟩) ?_ ?_
 rotate_left
 ·intro w'
  go_simp
  with_reducible rfl
 rotate_left
 ·simp only [Act.put, List.setIfInBounds_toArray, List.set_cons_zero, List.set_cons_succ, i64_w, i32_w]
  rfl
 refine take_ (i := 0) (N := some 5) (v := ?_) (a' := ?_) (tb 6 3) rfl rfl (by kernel_rfl) (fun _ _ _ h => h) (Or.inl ⟨by rfl, ?_⟩) hHeld ?_ ?_
 rotate_left
 ·rintro w' ⟨s0, s1, s2, s3⟩
  go_simp
  with_reducible rfl
 rotate_left
 ·simp only [Act.put, List.setIfInBounds_toArray, List.set_cons_zero, List.set_cons_succ, i64_w, i32_w]
  rfl
 refine take_ (i := 3) (N := some 8) (v := ?_) (a' := ?_) (tb 6 11) rfl rfl (by kernel_rfl) (fun _ _ _ h => h) (Or.inl ⟨by rfl, ?_⟩) hHeld ?_ ?_
 rotate_left
 ·rintro w' ⟨s0, s1, s2, s3⟩
  go_simp
  with_reducible rfl
 rotate_left
 ·simp only [Act.put, List.setIfInBounds_toArray, List.set_cons_zero, List.set_cons_succ, i64_w, i32_w]
  rfl
 refine one_ (i := 2) (N := some 7) (tb 6 15) rfl rfl (by kernel_rfl) (by decide) (fun K hK => ?_)
 refine go1 Tryz.func65 #[.agg #[.int .i64 a0_0, .int .i64 a0_1, .int .i64 a0_2, .int .i64 a0_3], .string a1] ?_
 with_reducible refine (impl_Clue_told.calls k a0_0 a0_1 a0_2 a0_3 a1 t141 t142 t143 t144 _ ?side1 A3.out).mono ?_
 (case side1 => exact Dr.mm HMM)
 rintro e w6 ⟨rfl, hb⟩
 refine ⟨_, rfl, ?_⟩
 replace BK140 := nk BK140 hb
 replace HB := bs hb
 (try clear hb)
 refine hK.out _ _ ⟨ec BK140, ec BK140, ec BK140, ec BK140⟩ (fun hHeld => ?_)
 clear hK K
 refine nm (some 7) ?_
 refine pure_ (i := 4) (N := some 9) (v := ?_) (a' := ?_) (tb 6 31) rfl rfl (by kernel_rfl) (fun _ _ _ h => h) (Or.inl ⟨by rfl, ?_⟩) ?_ ?_
 rotate_left
 ·intro w'
  go_simp
  with_reducible rfl
 rotate_left
 ·simp only [Act.put, List.setIfInBounds_toArray, List.set_cons_zero, List.set_cons_succ, i64_w, i32_w]
  rfl
 refine pure_ (i := 5) (N := some 4) (v := ?_) (a' := ?_) (tb 6 63) rfl rfl (by kernel_rfl) (fun _ _ _ h => h) (Or.inl ⟨by rfl, ?_⟩) ?_ ?_
 rotate_left
 ·intro w'
  go_simp
  with_reducible rfl
 rotate_left
 ·simp only [Act.put, List.setIfInBounds_toArray, List.set_cons_zero, List.set_cons_succ, i64_w, i32_w]
  rfl
 refine done_ (by kernel_rfl) ?_
 try go_wp2
 go_ret
 exact ⟨rs, bw⟩

end Go.Proofs.YtfaakdokcldnkaaGreatDoor.PFnRowsGuessedOfAll
