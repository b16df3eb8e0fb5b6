-- Laid by xprint, a program of this session that runs over the kit's print.
import Derived.Test.YtmindeeacfdonaaDoorPFnExactMakePuzzlex0
import Derived.Test.YtmindeeacfdonaaDoorPFnExactMakePuzzlex1
import Derived.Test.YtmindeeacfdonaaDoorPFnExactMakePuzzlex2
namespace Go.Proofs.YtmindeeacfdonaaDoor.PFnExactMakePuzzle
open Go.RowKit Go.Proofs.YtmindeeacfdonaaDoorW.PrintWords Go.Proofs.YtmindeeacfdonaaDoorW.PrintLast Go.Proofs.YtmindeeacfdonaaDoorW.PrintMore Go.Proofs.YtmindeeacfdonaaDoor.Sq
attribute [local go_sem] max2_int min2_int max_two min_two max_three min_three max_four min_four   -- for this text's walks alone
set_option linter.unusedVariables false
set_option linter.unusedSimpArgs false

/-! ### spec_MakePuzzle: function 22 -/
mutual
def spec_MakePuzzle.j0 : Nat → ByteArray → Int → Int → Bool → Option (Int × (List (S33)) × Bool)
  | 0, _, _, _, _ => none
  | k + 1, x0, x1, x2, x23 => if x23 = true then (some (0, ([] : List (S33)), false)) else (spec_MakePuzzle.l0 k x0 x1 x2 (x0.size : Int) ([] : List (S33)))
def spec_MakePuzzle.l0 : Nat → ByteArray → Int → Int → Int → List (S33) → Option (Int × (List (S33)) × Bool)
  | 0, _, _, _, _, _ => none
  | k + 1, x0, x1, x9, x145000, x145001 => if x1 > 0 then ((spec_pzNext.f x9).bind fun t145 => ((spec_pzNext.f t145).bind fun t146 => ((spec_pzOf.f k (Int.tmod t145 5) t146 x0).bind fun bt147 => (if x145001.length < 4398046511104 then (spec_MakePuzzle.l0 k x0 (wrap64 (x1 - 1)) t146 x145000 (x145001 ++ [(⟨bt147.1, bt147.2.1, bt147.2.2.1, bt147.2.2.2⟩ : S33)])) else (none))))) else (some (x145000, x145001, true))
end
def spec_MakePuzzle.f (k : Nat) (a0 : ByteArray) (a1 : Int) (a2 : Int) : Option (Int × (List (S33)) × Bool) := (spec_pzHidden.f k a0).bind fun t141 => (if t141 = true then ((spec_l1In.f a1 0 6).bind fun t142 => (if t142 = true then ((spec_l1In.f a2 0 9999).bind fun t143 => (spec_MakePuzzle.j0 k a0 a1 a2 (!t143))) else (spec_MakePuzzle.j0 k a0 a1 a2 true))) else (spec_MakePuzzle.j0 k a0 a1 a2 true))
theorem spec_MakePuzzle.mono_l : ∀ k, (∀ y0 y1 y2 y3, LeO (spec_MakePuzzle.j0 k y0 y1 y2 y3) (spec_MakePuzzle.j0 (k + 1) y0 y1 y2 y3)) ∧ (∀ y0 y1 y2 y3 y4, LeO (spec_MakePuzzle.l0 k y0 y1 y2 y3 y4) (spec_MakePuzzle.l0 (k + 1) y0 y1 y2 y3 y4))
  | 0 => ⟨fun _ _ _ _ r h => by simp [spec_MakePuzzle.j0] at h, fun _ _ _ _ _ r h => by simp [spec_MakePuzzle.l0] at h⟩
  | k + 1 => by
    obtain ⟨ih0, ih1⟩ := spec_MakePuzzle.mono_l k
    refine ⟨?_, ?_⟩
    · intro y0 y1 y2 y3
      unfold spec_MakePuzzle.j0
      repeat' first
      | (with_reducible exact ih0 _ _ _ _)
      | (with_reducible exact ih1 _ _ _ _ _)
      | (with_reducible exact spec_pzHidden.mono _ _)
      | (with_reducible exact spec_pzOf.mono _ _ _ _)
      | (with_reducible exact LeO.refl _)
      | (with_reducible exact LeO.none _)
      | (with_reducible refine LeO.ite ?_ ?_)
      | (with_reducible refine LeO.bind ?_ (fun _ => ?_))
      | exact ih0 _ _ _ _
      | exact ih1 _ _ _ _ _
      | exact spec_pzHidden.mono _ _
      | exact spec_pzOf.mono _ _ _ _
      | exact LeO.none _
      | refine LeO.ite ?_ ?_
      | refine LeO.bind ?_ (fun _ => ?_)
    · intro y0 y1 y2 y3 y4
      unfold spec_MakePuzzle.l0
      repeat' first
      | (with_reducible exact ih0 _ _ _ _)
      | (with_reducible exact ih1 _ _ _ _ _)
      | (with_reducible exact spec_pzHidden.mono _ _)
      | (with_reducible exact spec_pzOf.mono _ _ _ _)
      | (with_reducible exact LeO.refl _)
      | (with_reducible exact LeO.none _)
      | (with_reducible refine LeO.ite ?_ ?_)
      | (with_reducible refine LeO.bind ?_ (fun _ => ?_))
      | exact ih0 _ _ _ _
      | exact ih1 _ _ _ _ _
      | exact spec_pzHidden.mono _ _
      | exact spec_pzOf.mono _ _ _ _
      | exact LeO.none _
      | refine LeO.ite ?_ ?_
      | refine LeO.bind ?_ (fun _ => ?_)
theorem spec_MakePuzzle.mono : ∀ a0 a1 a2 k, LeO (spec_MakePuzzle.f k a0 a1 a2) (spec_MakePuzzle.f (k + 1) a0 a1 a2) := by
  intro a0 a1 a2 k
  obtain ⟨ih0, ih1⟩ := spec_MakePuzzle.mono_l k
  unfold spec_MakePuzzle.f
  repeat' first
      | (with_reducible exact ih0 _ _ _ _)
      | (with_reducible exact ih1 _ _ _ _ _)
      | (with_reducible exact spec_pzHidden.mono _ _)
      | (with_reducible exact spec_pzOf.mono _ _ _ _)
      | (with_reducible exact LeO.refl _)
      | (with_reducible exact LeO.none _)
      | (with_reducible refine LeO.ite ?_ ?_)
      | (with_reducible refine LeO.bind ?_ (fun _ => ?_))
      | exact ih0 _ _ _ _
      | exact ih1 _ _ _ _ _
      | exact spec_pzHidden.mono _ _
      | exact spec_pzOf.mono _ _ _ _
      | exact LeO.none _
      | refine LeO.ite ?_ ?_
      | refine LeO.bind ?_ (fun _ => ?_)
def spec_MakePuzzle.T10 : Bool × List (List Nat × List Nat) := (true, [([], []), ([0], [0]), ([], []), ([], []), ([], []), ([2, 3, 4], [2, 3, 4]), ([5], [5]), ([1, 6, 5], [1, 6]), ([0, 1, 2, 3, 4, 5, 6, 7], []), ([8, 7, 7, 0, 1, 2, 3, 4, 5, 6, 7], [7, 8])])
def spec_MakePuzzle.B10 : List Nat := [0, 1, 0, 0, 0, 28, 60, 127, 255, 511]
theorem spec_MakePuzzle.tab10 : rtab .any (opsOf Tryd.f22 10) = spec_MakePuzzle.T10 := by kernel_rfl
theorem spec_MakePuzzle.bits10 : waitsOk spec_MakePuzzle.T10.2 spec_MakePuzzle.B10 = true := by kernel_rfl
set_option maxHeartbeats 8000000 in
set_option maxRecDepth 100000 in
theorem spec_MakePuzzle.calls (k : Nat) (a0 : ByteArray) (a1 : Int) (a2 : Int) (r1 : Int) (r2 : List (S33)) (r3 : Bool) (w : World) (h : spec_MakePuzzle.f k a0 a1 a2 = some (r1, r2, r3)) :
  Calls Tryd.prog 22 #[.string a0, .int .i64 a1, .int .i64 a2] w fun e w' => ∃ v1_ : Value, e = .returned (.tuple #[.agg #[.int .i64 r1, v1_], .bool r3]) ∧ Kd.R k33 33 w' w.heap.size (fun _ => True) v1_ r2 ∧ Below w.heap.size w w' := by
 have hu38 := Tryd.underlying38
 have HB := Aside0.mk (Below.refl w.heap.size w)
 unfold spec_MakePuzzle.f at h
 have H := h
 clear h
 have HC4 := Aside0.mk H
 clear H
 go_enter Tryd.func22, Tryd.ntmps22
 go_upto_region 1 with (first | ((with_reducible refine gate_dst (N := 6) rfl ?_); refine bx 6 38 #[.int .i64 0, .slice none 0 0] ?_; intro gb140 hg w5 hbox hb; have BK140 := hbox; have GW140 := gs hg; have GE140 := gs hg; replace HB := bs hb; clear hb hbox hg))
 (try simp only [Act.put, List.setIfInBounds_toArray, List.set_cons_zero, List.set_cons_succ])
 go_cut [23] (fun v23 wc => ∃ (kq : Nat) (x23_3 : Bool), v23 = .bool x23_3 ∧ Aside0 (spec_MakePuzzle.j0 kq a0 a1 a2 x23_3 = some (r1, r2, r3)) ∧ Aside0 (kq ≤ k) ∧ Aside0 (wc.heap[gb140]? = some (.cells #[.int .i64 0, (.slice none 0 0)] 38 (0, 0))) ∧ Aside0 (Below w.heap.size w wc))
 case first =>
  have H := HC4.out
  clear HC4
  replace H := Option.bind_eq_some_iff.mp H
  obtain ⟨t141, A60, H⟩ := H
  (try dsimp only at H)
  have A6 := Aside0.mk A60
  clear A60
  by_cases c7 : t141 = true
  ·subst c7
   rw [if_pos rfl] at H
   replace H := Option.bind_eq_some_iff.mp H
   obtain ⟨t142, A80, H⟩ := H
   (try dsimp only at H)
   have A8 := Aside0.mk A80
   clear A80
   by_cases c9 : t142 = true
   ·subst c9
    rw [if_pos rfl] at H
    replace H := Option.bind_eq_some_iff.mp H
    obtain ⟨t143, A100, H⟩ := H
    (try dsimp only at H)
    have A10 := Aside0.mk A100
    clear A100
    have H' := Aside0.mk H
    clear H
    go_wp2_with (first | ((with_reducible refine gate_callee (f := 55) rfl ?_); refine gl (some 12) Tryd.func55 #[.string a0] ?_; (with_reducible refine (spec_pzHidden.calls k a0 true _ A6.out).mono ?_); rintro e w' ⟨rfl, ⟨nd, rfl⟩⟩; refine ⟨_, rfl, ?_⟩) | (go_at_call 61; (with_reducible refine (spec_l1In.calls a1 0 6 true _ A8.out).mono ?_); rintro e w' ⟨rfl, ⟨nd, rfl⟩⟩) | (go_at_call 61; (with_reducible refine (spec_l1In.calls a2 0 9999 t143 _ A10.out).mono ?_); rintro e w' ⟨rfl, ⟨nd, rfl⟩⟩))
    go_meet
    case rel => exact ⟨_, (!t143), (rs), H', ⟨by first | omega | exact Nat.le_refl _⟩, ⟨pk BK140⟩, ⟨bw⟩⟩
   ·replace c9 := Bool.eq_false_iff.mpr c9
    subst c9
    rw [if_neg (show ¬ (false = true) by decide)] at H
    have H' := Aside0.mk H
    clear H
    go_wp2_with (first | ((with_reducible refine gate_callee (f := 55) rfl ?_); refine gl (some 12) Tryd.func55 #[.string a0] ?_; (with_reducible refine (spec_pzHidden.calls k a0 true _ A6.out).mono ?_); rintro e w' ⟨rfl, ⟨nd, rfl⟩⟩; refine ⟨_, rfl, ?_⟩) | (go_at_call 61; (with_reducible refine (spec_l1In.calls a1 0 6 false _ A8.out).mono ?_); rintro e w' ⟨rfl, ⟨nd, rfl⟩⟩))
    go_meet
    case rel => exact ⟨_, (true), (rs), H', ⟨by first | omega | exact Nat.le_refl _⟩, ⟨pk BK140⟩, ⟨bw⟩⟩
  ·replace c7 := Bool.eq_false_iff.mpr c7
   subst c7
   rw [if_neg (show ¬ (false = true) by decide)] at H
   have H' := Aside0.mk H
   clear H
   go_wp2_with (first | ((with_reducible refine gate_callee (f := 55) rfl ?_); refine gl (some 12) Tryd.func55 #[.string a0] ?_; (with_reducible refine (spec_pzHidden.calls k a0 false _ A6.out).mono ?_); rintro e w' ⟨rfl, ⟨nd, rfl⟩⟩; refine ⟨_, rfl, ?_⟩))
   go_meet
   case rel => exact ⟨_, (true), (rs), H', ⟨by first | omega | exact Nat.le_refl _⟩, ⟨pk BK140⟩, ⟨bw⟩⟩
 case rest =>
  clear HC4
  try clear c2
  try clear p2
  try clear c5
  try clear c7
  try clear c9
  obtain ⟨kq, x23_3, rfl, HA, HJ3, BK140, HB⟩ := hcut
  cases kq with
  | zero => exact absurd HA.out (by simp [spec_MakePuzzle.j0])
  | succ kj3 =>
   have H := HA.out
   clear HA
   simp only [spec_MakePuzzle.j0] at H
   by_cases c11 : x23_3 = true
   ·subst c11
    rw [if_pos rfl] at H
    simp only [Option.some.injEq, Prod.mk.injEq] at H
    obtain ⟨rfl, rfl, rfl⟩ := H
    have hcz12_0 : wc.cell? ⟨gb140, 0, none⟩ = some (.int .i64 0) := ec BK140
    have hcz12_1 : wc.cell? ⟨gb140, 1, none⟩ = some (.slice none 0 0) := ec BK140
    have hfz12_0 := blk_frozen BK140.out 0
    have hfz12_1 := blk_frozen BK140.out 1
    go_wp2
    refine bodyPost_ret (results_ct rfl _ _ gb140 38 #[.int .i64 0, .slice none 0 0] (0, 0) _ rfl (by (with_reducible repeat (first | refine blk_drewN ?_ _ | refine blk_drew ?_ | refine blk_alloc ?_ _)); refine blk_put (cs := #[.int .i64 0, .slice none 0 0]) ?_ 1 _ rfl; (with_reducible repeat (first | refine blk_drewN ?_ _ | refine blk_drew ?_ | refine blk_alloc ?_ _)); refine blk_put (cs := #[.int .i64 0, .slice none 0 0]) ?_ 0 _ rfl; (with_reducible repeat (first | refine blk_drewN ?_ _ | refine blk_drew ?_ | refine blk_alloc ?_ _)); exact BK140.out) Tryd.underlying38 rfl (by kernel_rfl)) rfl ?_
    exact ⟨_, rs, by first | exact Kd.R_nil _ _ _ _ _ | exact Kd.N_nil _ _ _ _ _ | exact Kd.V_nil _ _ _ _ _ | exact Kd.Q_nil _ _ _ _ _ | exact Kd.S_nil _ _ _ _ _, bw⟩
   ·replace c11 := Bool.eq_false_iff.mpr c11
    subst c11
    rw [if_neg (show ¬ (false = true) by decide)] at H
    have H' := Aside0.mk H
    clear H
    go_wp2_with (first | ((with_reducible refine gate_dst (N := 8) rfl ?_); refine bx 8 38 #[.int .i64 0, .slice none 0 0] ?_; intro gb144 hg w13 hbox hb; have BK144 := hbox; have GW144 := gs hg; have GE144 := gs hg; replace HB := bs hb; have NB140_144 := nl BK140 hg; have NB144_140 := ng BK140 hg; replace BK140 := nk BK140 hb; clear hb hbox hg; have hnb14 := NB144_140.out; have hnc14 := NB140_144.out; have hcz15_0 := bc BK144 0 (.int .i64 0); have hcz15_1 := bc BK144 1 (.slice none 0 0); have hfz15_0 := blk_frozen BK144.out 0; have hfz15_1 := blk_frozen BK144.out 1))
    go_loopg [1, 9] kj3 (fun kq v1 v9 w' => ∃ (x1_2 : Int) (x9_2 : Int) (x145001_2 : List (S33)) (u145001 : Value), v1 = .int .i64 x1_2 ∧ v9 = .int .i64 x9_2 ∧ Aside0 (spec_MakePuzzle.l0 kq a0 x1_2 x9_2 (a0.size : Int) x145001_2 = some (r1, r2, r3)) ∧ Aside0 (kq ≤ kj3) ∧ Aside0 (Kd.R k33 33 w' w.heap.size (fun _ => True) u145001 x145001_2) ∧ Aside0 (w'.heap[gb140]? = some (.cells #[.int .i64 0, (.slice none 0 0)] 38 (0, 0))) ∧ Aside0 (w'.heap[gb144]? = some (.cells #[.int .i64 (a0.size : Int), u145001] 38 (0, 0))) ∧ Aside0 (Below w.heap.size w w'))
    case atStart => exact ⟨(a1), (a2), (([] : List (S33))), (.slice none 0 0), (rs), (rs), H', ⟨Nat.le_refl _⟩, ⟨by first | exact Kd.R_nil _ _ _ _ _ | exact Kd.N_nil _ _ _ _ _ | exact Kd.V_nil _ _ _ _ _ | exact Kd.Q_nil _ _ _ _ _ | exact Kd.S_nil _ _ _ _ _⟩, ⟨by (with_reducible repeat (first | refine blk_drewN ?_ _ | refine blk_drew ?_ | refine blk_alloc ?_ _)); refine blk_far ?_ NB140_144.out _; (with_reducible repeat (first | refine blk_drewN ?_ _ | refine blk_drew ?_ | refine blk_alloc ?_ _)); refine blk_far ?_ NB140_144.out _; (with_reducible repeat (first | refine blk_drewN ?_ _ | refine blk_drew ?_ | refine blk_alloc ?_ _)); exact BK140.out⟩, ⟨by (with_reducible repeat (first | refine blk_drewN ?_ _ | refine blk_drew ?_ | refine blk_alloc ?_ _)); refine blk_put (cs := #[.int .i64 (a0.size : Int), .slice none 0 0]) ?_ 1 _ rfl; (with_reducible repeat (first | refine blk_drewN ?_ _ | refine blk_drew ?_ | refine blk_alloc ?_ _)); refine blk_put (cs := #[.int .i64 0, .slice none 0 0]) ?_ 0 _ rfl; (with_reducible repeat (first | refine blk_drewN ?_ _ | refine blk_drew ?_ | refine blk_alloc ?_ _)); exact BK144.out⟩, ⟨bw⟩⟩
    case round =>
     clear H'
     try clear c1
     try clear c2
     try clear p2
     try clear c5
     try clear c7
     try clear c9
     try clear c11
     try clear c14
     try clear hcz12_0
     try clear hcz12_1
     try clear hcz15_0
     try clear hcz15_1
     try clear hfz12_0
     try clear hfz12_1
     try clear hfz15_0
     try clear hfz15_1
     try clear p2
     obtain ⟨x1_2, x9_2, x145001_2, u145001, rfl, rfl, HA, HK2, HO_145001, BK140, BK144, HB⟩ := hrel
     cases gk with
     | zero => exact absurd HA.out (by simp [spec_MakePuzzle.l0])
     | succ k2 =>
      have H := HA.out
      clear HA
      simp only [spec_MakePuzzle.l0] at H
      by_cases c16 : x1_2 > 0
      ·rw [if_pos c16] at H
       have c16b0 : decide (0 < x1_2) = true := decide_eq_true c16
       clear c16
       replace H := Option.bind_eq_some_iff.mp H
       obtain ⟨t145, A170, H⟩ := H
       (try dsimp only at H)
       have A17 := Aside0.mk A170
       clear A170
       replace H := Option.bind_eq_some_iff.mp H
       obtain ⟨t146, A180, H⟩ := H
       (try dsimp only at H)
       have A18 := Aside0.mk A180
       clear A180
       replace H := Option.bind_eq_some_iff.mp H
       obtain ⟨⟨t147, t148, t149, t150⟩, A190, H⟩ := H
       (try dsimp only at H)
       have A19 := Aside0.mk A190
       clear A190
       by_cases c20 : x145001_2.length < 4398046511104
       ·rw [if_pos c20] at H
        have LMc20 := Aside0.mk c20
        clear c20
        obtain ⟨y151, hy151⟩ : ∃ y_ : List (S33), y_ = (x145001_2 ++ [(⟨t147, t148, t149, t150⟩ : S33)]) := ⟨_, rfl⟩
        replace H : (spec_MakePuzzle.l0 k2 a0 (wrap64 (x1_2 - 1)) t146 (a0.size : Int) y151) = some (r1, r2, r3) := by first | (rw [hy151]; with_reducible exact H) | (have H2_ := (Option.bind_some _ _).symm.trans H; rw [hy151]; with_reducible exact H2_) | (have H2_ := (Option.bind_some _ _).symm.trans H; with_reducible exact H2_) | with_reducible exact H | (rw [hy151]; exact H) | exact H
        have Ny151 := Aside0.mk hy151
        clear hy151
        have H' := Aside0.mk H
        clear H
        try go_wp2_with (first | ((with_reducible refine gate_callee (f := 62) rfl ?_); refine gl (some 34) Tryd.func62 #[.int .i64 x9_2] ?_; (with_reducible refine (spec_pzNext.calls x9_2 t145 _ A17.out).mono ?_); rintro e w' ⟨rfl, ⟨nd, rfl⟩⟩; refine ⟨_, rfl, ?_⟩; (try (rw [drewN_self wr]; generalize hq_ : World.drewN wr _ = wr; have n0_ : Aside0 (Kd.R k33 33 wr w.heap.size (fun _ => True) u145001 x145001_2) := ⟨by rw [← hq_]; exact (pr HO_145001)⟩; have n1_ : Aside0 (wr.heap[gb140]? = some (.cells #[.int .i64 0, .slice none 0 0] 38 (0, 0))) := ⟨by rw [← hq_]; exact (pk BK140)⟩; have n2_ : Aside0 (wr.heap[gb144]? = some (.cells #[.int .i64 (a0.size : Int), u145001] 38 (0, 0))) := ⟨by rw [← hq_]; exact (pk BK144)⟩; have n3_ : Aside0 (Below w.heap.size w wr) := ⟨by rw [← hq_]; exact bw⟩; clear HO_145001 BK140 BK144 HB hq_; have HO_145001 := n0_; have BK140 := n1_; have BK144 := n2_; have HB := n3_; clear n0_ n1_ n2_ n3_))) | ((with_reducible refine gate_callee (f := 62) rfl ?_); refine gl (some 38) Tryd.func62 #[.int .i64 t145] ?_; (with_reducible refine (spec_pzNext.calls t145 t146 _ A18.out).mono ?_); rintro e w' ⟨rfl, ⟨nd, rfl⟩⟩; refine ⟨_, rfl, ?_⟩; (try (rw [drewN_self wr]; generalize hq_ : World.drewN wr _ = wr; have n0_ : Aside0 (Kd.R k33 33 wr w.heap.size (fun _ => True) u145001 x145001_2) := ⟨by rw [← hq_]; exact (pr HO_145001)⟩; have n1_ : Aside0 (wr.heap[gb140]? = some (.cells #[.int .i64 0, .slice none 0 0] 38 (0, 0))) := ⟨by rw [← hq_]; exact (pk BK140)⟩; have n2_ : Aside0 (wr.heap[gb144]? = some (.cells #[.int .i64 (a0.size : Int), u145001] 38 (0, 0))) := ⟨by rw [← hq_]; exact (pk BK144)⟩; have n3_ : Aside0 (Below w.heap.size w wr) := ⟨by rw [← hq_]; exact bw⟩; clear HO_145001 BK140 BK144 HB hq_; have HO_145001 := n0_; have BK140 := n1_; have BK144 := n2_; have HB := n3_; clear n0_ n1_ n2_ n3_))))
        replace HO_145001 := Aside0.mk (Kd.R_drew HO_145001.out)
        replace BK140 := Aside0.mk (blk_drew BK140.out)
        replace BK144 := Aside0.mk (blk_drew BK144.out)
        replace HB := Aside0.mk (below_drew1 HB.out)
        refine start_ (n := 10) (S := fun w' => w'.cell? ⟨gb144, 0, none⟩ = some (.int .i64 (a0.size : Int)) ∧ w'.cell? ⟨gb144, 1, none⟩ = some (u145001)) (ds := [9]) #[false, false, false, false, false, false, false, false, false, false] (by kernel_rfl) rfl rfl ⟨ec BK144, ec BK144⟩ (fun hHeld => ?_); refine with_tabW spec_MakePuzzle.tab10 spec_MakePuzzle.bits10 (fun HT_ HW_ => ?_)
        generalize wr.drew = w21 at HO_145001 BK140 BK144 HB hHeld ⊢
        refine pu 0 (some 39) #[true, false, false, false, false, false, false, false, false, false] ?_
        refine pu 2 (some 41) #[true, false, true, false, false, false, false, false, false, false] ?_
        refine pu 3 (some 42) #[true, false, true, true, false, false, false, false, false, false] ?_
        refine pu 4 (some 43) #[true, false, true, true, true, false, false, false, false, false] ?_
        refine take_ (i := 1) (N := some 40) (v := ?_) (a' := ?_) #[true, true, true, true, true, false, false, false, false, false] rfl rfl (take_ofW HT_.out HW_.out (by kernel_rfl)) (fun _ _ _ h => h) (Or.inl ⟨by rfl, ?_⟩) hHeld ?_ ?_
        rotate_left
        ·rintro w' ⟨s0, s1⟩
         go_simp
         with_reducible rfl
        rotate_left
        ·simp only [Act.put, List.setIfInBounds_toArray, List.set_cons_zero, List.set_cons_succ, i64_w, i32_w]
         rfl
        refine one_ (i := 5) (N := some 44) #[true, true, true, true, true, true, false, false, false, false] rfl rfl (one_of HT_.out (by kernel_rfl)) (by decide) (fun K hK => ?_)
        refine goes_ Tryd.func63 (by kernel_rfl) rfl #[.int .i64 (Int.tmod t145 5), .int .i64 t146, .string a0] (by rfl) rfl rfl (by (try simp only [List.map_toArray, List.map_cons, List.map_nil]); first | done | rfl | (simp only [List.length_drop, List.length_take]; rfl)) ?_
        with_reducible refine (spec_pzOf.calls k2 (Int.tmod t145 5) t146 a0 t147 t148 t149 t150 _ A19.out).mono ?_
        rintro e w22 ⟨rfl, hb⟩
        refine ⟨_, rfl, ?_⟩
        replace HO_145001 := Aside0.mk (Kd.R_below (pr HO_145001) hb)
        replace BK140 := nk BK140 hb
        replace BK144 := nk BK144 hb
        replace HB := bs hb
        (try clear hb)
        refine hK.out _ _ ⟨ec BK144, ec BK144⟩ (fun hHeld => ?_)
        clear hK K
        refine nm (some 44) ?_
        refine one_ (i := 6) (N := some 45) #[true, true, true, true, true, true, true, false, false, false] rfl rfl (one_of HT_.out (by kernel_rfl)) (by decide) (fun K hK => ?_)
        refine value_ (w1 := ?_) (v := ?_) (by rfl) rfl ?_ ?_
        rotate_left 2
        ·go_simp
         constructor
         ·rfl
         ·rfl
        refine hK.out _ _ ⟨(blk_cell (blk_alloc BK144.out _) 0).trans rfl, (blk_cell (blk_alloc BK144.out _) 1).trans rfl⟩ (fun hHeld => ?_)
        clear hK K
        refine nm (some 45) ?_
        refine one_ (i := 7) (N := some 46) #[true, true, true, true, true, true, true, true, false, false] rfl rfl (one_of HT_.out (by kernel_rfl)) (by decide) (fun K hK => ?_)
        refine Kd.R_append_step k33 (w0 := w) w.heap.size (by rfl) (.tmp 40) (.tmp 45) 36 33 (.agg #[(.int .i64 0), (.int .i64 0), (.int .i64 0), (.int .i64 0)]) 32 rfl Tryd.underlying36 info33 rfl (by decide) (by omega) u145001 x145001_2 (⟨t147, t148, t149, t150⟩ : S33) [.int .i64 t147, .int .i64 t148, .int .i64 t149, .int .i64 t150] (fun _ => True) (fun _ => False) rfl rfl ?aP (fun _ hk => hk.elim) ?aF ?aO ?aB ?aS ?aL ?_
        (case aP => exact k33_mkM _ _ _ (⟨t147, t148, t149, t150⟩ : S33))
        (case aB => exact bw)
        (case aF => exact (fun _ _ => trivial))
        (case aO => exact (pr HO_145001))
        (case aS => exact (below_size bw))
        (case aL => have := LMc20.out; omega)
        intro v152 w23 ho hb hg hat
        rw [← Ny151.out] at ho
        have n0_ := Aside0.mk (blk_grown (pk BK140) hg (Kd.R_ne HO_145001.out BK140.out (by decide)))
        have n1_ := Aside0.mk (blk_grown (pk BK144) hg (Kd.R_ne HO_145001.out BK144.out (by decide)))
        have n2_ := Aside0.mk (hb)
        have n3_ := Aside0.mk (ho)
        clear BK140
        clear BK144
        clear HB
        clear HO_145001
        have BK140 := n0_
        have BK144 := n1_
        have HB := n2_
        have HO153 := n3_
        clear n0_ n1_ n2_ n3_
        clear ho hb hg hat
        obtain ⟨Ao24, co24, eo24⟩ := Kd.R_slice HO153.out
        (first | subst eo24 | (injection eo24 with f1_ f2_ f3_; have f4_ := f1_.symm; have f5_ := f3_.symm; clear f1_ f2_ f3_; subst f4_; subst f5_))
        refine hK.out _ _ ⟨ec BK144, ec BK144⟩ (fun hHeld => ?_)
        clear hK K
        refine nm (some 46) ?_
        refine pu 8 (some 47) #[true, true, true, true, true, true, true, true, true, false] ?_
        refine last_ (i := 9) (N := none) #[true, true, true, true, true, true, true, true, true, true] rfl rfl (one_of HT_.out (by kernel_rfl)) (by decide) (fun K hK => ?_)
        have hs25 : w23.cell? ⟨gb144, 1, none⟩ = some (u145001) := ec BK144
        have hfs25 := blk_frozen BK144.out 1
        have hns25_0 := NB140_144.out
        have hms25_0 := NB144_140.out
        refine skip_ (w1 := ?_) (by rfl) rfl ?_ ?_
        rotate_left
        ·go_simp
         rfl
        refine hK.out _ _ ?_
        clear hK K
        refine done_ (done_of HT_.out (by kernel_rfl)) ?_
        try go_wp2
        go_roundg k2
        case measure => have := HJ3.out; have := HK2.out; omega
        case rel => exact ⟨(wrap64 (x1_2 - 1)), (t146), (y151), (.slice Ao24 y151.length co24), (rs), (rs), H', ⟨by have := HJ3.out; have := HK2.out; omega⟩, ⟨by (with_reducible repeat (first | apply Kd.R_alloc | apply Kd.R_drewN | apply Kd.R_drew)); exact Kd.R_mono (Kd.R_far (p := ⟨gb144, 1, none⟩) (Kd.R_types HO153.out BK144.out (by decide)) (fun _ hk => hk.2) (.slice Ao24 y151.length co24)) (fun _ hk => trivial)⟩, ⟨by (with_reducible repeat (first | refine blk_drewN ?_ _ | refine blk_drew ?_ | refine blk_alloc ?_ _)); refine blk_far ?_ NB140_144.out _; (with_reducible repeat (first | refine blk_drewN ?_ _ | refine blk_drew ?_ | refine blk_alloc ?_ _)); exact BK140.out⟩, ⟨by (with_reducible repeat (first | refine blk_drewN ?_ _ | refine blk_drew ?_ | refine blk_alloc ?_ _)); refine blk_put (cs := #[.int .i64 (a0.size : Int), u145001]) ?_ 1 _ rfl; (with_reducible repeat (first | refine blk_drewN ?_ _ | refine blk_drew ?_ | refine blk_alloc ?_ _)); exact BK144.out⟩, ⟨bw⟩⟩
       ·rw [if_neg c20] at H
        exact absurd H (by simp)
      ·rw [if_neg c16] at H
       have c16b0 : decide (0 < x1_2) = false := decide_eq_false c16
       clear c16
       simp only [Option.some.injEq, Prod.mk.injEq] at H
       obtain ⟨rfl, rfl, rfl⟩ := H
       have hnb26 := NB144_140.out
       have hnc26 := NB140_144.out
       have hcz27_0 : wr.cell? ⟨gb144, 0, none⟩ = some (.int .i64 (a0.size : Int)) := ec BK144
       have hcz27_1 : wr.cell? ⟨gb144, 1, none⟩ = some (u145001) := ec BK144
       have hfz27_0 := blk_frozen BK144.out 0
       have hfz27_1 := blk_frozen BK144.out 1
       have hcz28_0 : wr.cell? ⟨gb140, 0, none⟩ = some (.int .i64 0) := ec BK140
       have hcz28_1 : wr.cell? ⟨gb140, 1, none⟩ = some (.slice none 0 0) := ec BK140
       have hfz28_0 := blk_frozen BK140.out 0
       have hfz28_1 := blk_frozen BK140.out 1
       obtain ⟨Ao29, co29, eo29⟩ := Kd.R_slice HO_145001.out
       subst eo29
       go_wp2
       refine bodyPost_ret (results_ct rfl _ _ gb140 38 #[.int .i64 (a0.size : Int), .slice Ao29 x145001_2.length co29] (0, 0) _ rfl (by (with_reducible repeat (first | refine blk_drewN ?_ _ | refine blk_drew ?_ | refine blk_alloc ?_ _)); refine blk_put (cs := #[.int .i64 (a0.size : Int), .slice none 0 0]) ?_ 1 _ rfl; (with_reducible repeat (first | refine blk_drewN ?_ _ | refine blk_drew ?_ | refine blk_alloc ?_ _)); refine blk_put (cs := #[.int .i64 0, .slice none 0 0]) ?_ 0 _ rfl; (with_reducible repeat (first | refine blk_drewN ?_ _ | refine blk_drew ?_ | refine blk_alloc ?_ _)); exact BK140.out) Tryd.underlying38 rfl (by kernel_rfl)) rfl ?_
       exact ⟨_, rs, by (with_reducible repeat (first | apply Kd.R_alloc | apply Kd.R_drewN | apply Kd.R_drew)); exact Kd.R_mono (Kd.R_far (p := ⟨gb140, 1, none⟩) (Kd.R_far (p := ⟨gb140, 0, none⟩) (Kd.R_types HO_145001.out BK140.out (by decide)) (fun _ hk => hk.2) (.int .i64 (a0.size : Int))) (fun _ hk => hk.2) (.slice Ao29 x145001_2.length co29)) (fun _ hk => trivial), bw⟩

/-! ### impl_in: function 65 -/
def impl_in.f (a0 : Int) (a1 : Int) (a2 : Int) : Option (Bool) := if a1 ≤ a0 then (some (decide (a0 ≤ a2))) else (some false)
set_option maxHeartbeats 8000000 in
set_option maxRecDepth 100000 in
theorem impl_in.calls (a0 : Int) (a1 : Int) (a2 : Int) (r : Bool) (w : World) (h : impl_in.f a0 a1 a2 = some r) :
  Calls Tryd.prog 65 #[.int .i64 a0, .int .i64 a1, .int .i64 a2] w fun e w' => e = .returned (.bool r) ∧ Drawn0 w w' := by
 unfold impl_in.f at h
 have H := h
 clear h
 by_cases c4 : a1 ≤ a0
 ·rw [if_pos c4] at H
  have c4b0 : decide (a1 ≤ a0) = true := decide_eq_true c4
  clear c4
  obtain rfl := Option.some.inj H
  go_enter Tryd.func65, Tryd.ntmps65
  go_wp2
  go_ret
  exact ⟨rs, by repeat (first | exact Drawn0.refl _ | apply Drawn0.step)⟩
 ·rw [if_neg c4] at H
  have c4b0 : decide (a1 ≤ a0) = false := decide_eq_false c4
  clear c4
  obtain rfl := Option.some.inj H
  go_enter Tryd.func65, Tryd.ntmps65
  go_wp2
  go_ret
  exact ⟨rs, by repeat (first | exact Drawn0.refl _ | apply Drawn0.step)⟩

/-! ### strings_Trim: function 86 -/
def strings_Trim.f (a0 : ByteArray) (a1 : ByteArray) : Option ByteArray := if a0.size ≤ 140737488355328 ∧ a1.size < 4294967281 ∧ a1.data.toList.all (fun b => decide (b.toNat < 128)) = true then some ⟨(Lib.trimS a0.data.toList a1.data.toList).toArray⟩ else none
theorem strings_Trim.calls (a0 : ByteArray) (a1 : ByteArray) (r : ByteArray) (w : World) (h : strings_Trim.f a0 a1 = some r) :
  Calls Tryd.prog 86 #[.string a0, .string a1] w fun e w' => e = .returned (.string r) ∧ Below w.heap.size w w' := by
 unfold strings_Trim.f at h
 split at h
 ·next hc =>
  obtain rfl := Option.some.inj h
  exact Any.strings_Trim_laid Tryd.lays160 (by kernel_rfl) a0 a1 w (by omega) hc.2.1 (ascii_of_all hc.2.2)
 ·cases h

/-! ### impl_isRow: function 58 -/
def impl_isRow.f (a0 : ByteArray) : Option (Bool) := (impl_in.f (a0.size : Int) 1 60).bind fun t154 => (if t154 = true then ((strings_Trim.f a0 (⟨#[60, 62]⟩ : ByteArray)).bind fun t155 => (some (t155.toList == ([] : List UInt8)))) else (some false))
set_option maxHeartbeats 8000000 in
set_option maxRecDepth 100000 in
theorem impl_isRow.calls (a0 : ByteArray) (r : Bool) (w : World) (h : impl_isRow.f a0 = some r) :
  Calls Tryd.prog 58 #[.string a0] w fun e w' => e = .returned (.bool r) ∧ Below w.heap.size w w' := by
 have HB := Aside0.mk (Below.refl w.heap.size w)
 unfold impl_isRow.f at h
 have H := h
 clear h
 replace H := Option.bind_eq_some_iff.mp H
 obtain ⟨t154, A20, H⟩ := H
 (try dsimp only at H)
 have A2 := Aside0.mk A20
 clear A20
 by_cases c3 : t154 = true
 ·subst c3
  rw [if_pos rfl] at H
  replace H := Option.bind_eq_some_iff.mp H
  obtain ⟨t155, A40, H⟩ := H
  (try dsimp only at H)
  have A4 := Aside0.mk A40
  clear A40
  obtain rfl := Option.some.inj H
  go_enter Tryd.func58, Tryd.ntmps58
  go_wp2_with (first | ((with_reducible refine gate_callee (f := 65) rfl ?_); refine gl (some 5) Tryd.func65 #[.int .i64 (a0.size : Int), .int .i64 1, .int .i64 60] ?_; (with_reducible refine (impl_in.calls (a0.size : Int) 1 60 true _ A2.out).mono ?_); rintro e w' ⟨rfl, ⟨nd, rfl⟩⟩; refine ⟨_, rfl, ?_⟩) | (go_at_call 86; (with_reducible refine (strings_Trim.calls a0 (⟨#[60, 62]⟩ : ByteArray) t155 _ A4.out).mono ?_); rintro e w5 ⟨rfl, hb⟩; replace HB := bs hb; (try clear hb)))
  go_ret
  exact ⟨rs, bw⟩
 ·replace c3 := Bool.eq_false_iff.mpr c3
  subst c3
  rw [if_neg (show ¬ (false = true) by decide)] at H
  obtain rfl := Option.some.inj H
  go_enter Tryd.func58, Tryd.ntmps58
  go_wp2_with (first | ((with_reducible refine gate_callee (f := 65) rfl ?_); refine gl (some 5) Tryd.func65 #[.int .i64 (a0.size : Int), .int .i64 1, .int .i64 60] ?_; (with_reducible refine (impl_in.calls (a0.size : Int) 1 60 false _ A2.out).mono ?_); rintro e w' ⟨rfl, ⟨nd, rfl⟩⟩; refine ⟨_, rfl, ?_⟩))
  go_ret
  exact ⟨rs, bw⟩

/-! ### impl_isHidden: function 64 -/
def impl_isHidden.f (a0 : Int) : Option (Bool) := (impl_in.f a0 1 8).bind fun t156 => (some t156)
set_option maxHeartbeats 8000000 in
set_option maxRecDepth 100000 in
theorem impl_isHidden.calls (a0 : Int) (r : Bool) (w : World) (h : impl_isHidden.f a0 = some r) :
  Calls Tryd.prog 64 #[.int .i64 a0] w fun e w' => e = .returned (.bool r) ∧ Drawn0 w w' := by
 unfold impl_isHidden.f at h
 have H := h
 clear h
 replace H := Option.bind_eq_some_iff.mp H
 obtain ⟨t156, A20, H⟩ := H
 (try dsimp only at H)
 have A2 := Aside0.mk A20
 clear A20
 obtain rfl := Option.some.inj H
 go_enter Tryd.func64, Tryd.ntmps64
 go_wp2_with (first | ((with_reducible refine gate_callee (f := 65) rfl ?_); refine gl (some 4) Tryd.func65 #[.int .i64 a0, .int .i64 1, .int .i64 8] ?_; (with_reducible refine (impl_in.calls a0 1 8 t156 _ A2.out).mono ?_); rintro e w' ⟨rfl, ⟨nd, rfl⟩⟩; refine ⟨_, rfl, ?_⟩))
 go_ret
 exact ⟨rs, by repeat (first | exact Drawn0.refl _ | apply Drawn0.step)⟩

/-! ### strings_Contains: function 126 -/
def strings_Contains.f (a0 : ByteArray) (a1 : ByteArray) : Option Bool := if a0.size < 4294967281 then some (Lib.contains a0.data.toList a1.data.toList) else none
theorem strings_Contains.calls (a0 : ByteArray) (a1 : ByteArray) (r : Bool) (w : World) (hm : Dr.Tab w) (h : strings_Contains.f a0 a1 = some r) :
  Calls Tryd.prog 126 #[.string a0, .string a1] w fun e w' => e = .returned (.bool r) ∧ Drawn0 w w' := by
 unfold strings_Contains.f at h
 obtain ⟨m, hm⟩ := hm.max
 split at h
 ·next hc =>
  obtain rfl := Option.some.inj h
  have c : Calls Tryd.prog 126 #[.string a0, .string a1] w _ := Any.strings_Contains { Tryd.laysM144 with } a0 a1 m w hc hm
  exact c.mono fun e w' ⟨h1, h2⟩ => ⟨h1, h2 ▸ Drawn0.refl _⟩
 ·cases h

/-! ### impl_isAtRest: function 113 -/
def impl_isAtRest.f (a0 : ByteArray) : Option (Bool) := (strings_Contains.f a0 (⟨#[62, 60]⟩ : ByteArray)).bind fun t157 => (some (!t157))
set_option maxHeartbeats 8000000 in
set_option maxRecDepth 100000 in
theorem impl_isAtRest.calls (a0 : ByteArray) (r : Bool) (w : World) (hm : Dr.Tab w) (h : impl_isAtRest.f a0 = some r) :
  Calls Tryd.prog 113 #[.string a0] w fun e w' => e = .returned (.bool r) ∧ Drawn0 w w' := by
 have HMM := Aside0.mk hm
 clear hm
 unfold impl_isAtRest.f at h
 have H := h
 clear h
 replace H := Option.bind_eq_some_iff.mp H
 obtain ⟨t157, A20, H⟩ := H
 (try dsimp only at H)
 have A2 := Aside0.mk A20
 clear A20
 obtain rfl := Option.some.inj H
 go_enter Tryd.func113, Tryd.ntmps113
 go_wp2_with (first | ((with_reducible refine gate_callee (f := 126) rfl ?_); refine gl (some 4) Tryd.func126 #[.string a0, .string (⟨#[62, 60]⟩ : ByteArray)] ?_; (with_reducible refine (strings_Contains.calls a0 (⟨#[62, 60]⟩ : ByteArray) t157 _ ?side1 A2.out).mono ?_); (case side1 => first | exact HMM.out | exact Dr.Tab.below HMM.out bw | (repeat (first | exact HMM.out | apply Dr.Tab.drewN | apply Dr.Tab.drew | apply Dr.Tab.alloc))); rintro e w' ⟨rfl, ⟨nd, rfl⟩⟩; refine ⟨_, rfl, ?_⟩))
 go_ret
 exact ⟨rs, by repeat (first | exact Drawn0.refl _ | apply Drawn0.step)⟩

/-! ### strings_ReplaceAll: function 127 -/
def strings_ReplaceAll.f (a0 : ByteArray) (a1 : ByteArray) (a2 : ByteArray) : Option ByteArray := if a0.size < 4294967281 ∧ 1 ≤ a1.size ∧ a0.size + Lib.countB a0 a1 * a2.size ≤ 140737488355328 then some ⟨(Lib.replaceAll a0.data.toList a1.data.toList a2.data.toList).toArray⟩ else none
theorem strings_ReplaceAll.calls (a0 : ByteArray) (a1 : ByteArray) (a2 : ByteArray) (r : ByteArray) (w : World) (hm : Dr.Tab w) (h : strings_ReplaceAll.f a0 a1 a2 = some r) :
  Calls Tryd.prog 127 #[.string a0, .string a1, .string a2] w fun e w' => e = .returned (.string r) ∧ Below w.heap.size w w' := by
 unfold strings_ReplaceAll.f at h
 obtain ⟨m, hm⟩ := hm.max
 split at h
 ·next hc =>
  obtain rfl := Option.some.inj h
  exact Any.strings_ReplaceAll { Tryd.laysM155 with } Tryd.Builder_Extra_M155 a0 a1 a2 m w hc.1 hm hc.2.1 hc.2.2
 ·cases h

/-! ### impl_tick: function 114 -/
def impl_tick.f (a0 : ByteArray) : Option (ByteArray) := (strings_ReplaceAll.f a0 (⟨#[62, 60]⟩ : ByteArray) (⟨#[60, 62]⟩ : ByteArray)).bind fun t158 => (some t158)
set_option maxHeartbeats 8000000 in
set_option maxRecDepth 100000 in
theorem impl_tick.calls (a0 : ByteArray) (r : ByteArray) (w : World) (hm : Dr.Tab w) (h : impl_tick.f a0 = some r) :
  Calls Tryd.prog 114 #[.string a0] w fun e w' => e = .returned (.string r) ∧ Below w.heap.size w w' := by
 have HB := Aside0.mk (Below.refl w.heap.size w)
 have HMM := Aside0.mk hm
 clear hm
 unfold impl_tick.f at h
 have H := h
 clear h
 replace H := Option.bind_eq_some_iff.mp H
 obtain ⟨t158, A20, H⟩ := H
 (try dsimp only at H)
 have A2 := Aside0.mk A20
 clear A20
 obtain rfl := Option.some.inj H
 go_enter Tryd.func114, Tryd.ntmps114
 go_wp2_with (first | ((with_reducible refine gate_callee (f := 127) rfl ?_); refine gl (some 4) Tryd.func127 #[.string a0, .string (⟨#[62, 60]⟩ : ByteArray), .string (⟨#[60, 62]⟩ : ByteArray)] ?_; (with_reducible refine (strings_ReplaceAll.calls a0 (⟨#[62, 60]⟩ : ByteArray) (⟨#[60, 62]⟩ : ByteArray) t158 _ ?side1 A2.out).mono ?_); (case side1 => first | exact HMM.out | exact Dr.Tab.below HMM.out bw | (repeat (first | exact HMM.out | apply Dr.Tab.drewN | apply Dr.Tab.drew | apply Dr.Tab.alloc))); rintro e w3 ⟨rfl, hb⟩; refine ⟨_, rfl, ?_⟩; replace HB := bs hb; (try clear hb)))
 go_ret
 exact ⟨rs, bw⟩

/-! ### impl_RowAfter: function 87 -/
mutual
def impl_RowAfter.j0 : Nat → ByteArray → Int → Bool → Option (ByteArray × Bool)
  | 0, _, _, _ => none
  | k + 1, x0, x1, x13 => if x13 = true then (some ((⟨#[]⟩ : ByteArray), false)) else (impl_RowAfter.l0 k x0 x1)
def impl_RowAfter.l0 : Nat → ByteArray → Int → Option (ByteArray × Bool)
  | 0, _, _ => none
  | k + 1, x0, x1 => if x1 > 0 then ((impl_isAtRest.f x0).bind fun t161 => (if t161 = true then (some (x0, true)) else ((impl_tick.f x0).bind fun t162 => (impl_RowAfter.l0 k t162 (wrap64 (x1 - 1)))))) else (some (x0, true))
end
def impl_RowAfter.f (k : Nat) (a0 : ByteArray) (a1 : Int) : Option (ByteArray × Bool) := (impl_isRow.f a0).bind fun t159 => (if t159 = true then ((impl_in.f a1 0 1000000).bind fun t160 => (impl_RowAfter.j0 k a0 a1 (!t160))) else (impl_RowAfter.j0 k a0 a1 true))
theorem impl_RowAfter.mono_l : ∀ k, (∀ y0 y1 y2, LeO (impl_RowAfter.j0 k y0 y1 y2) (impl_RowAfter.j0 (k + 1) y0 y1 y2)) ∧ (∀ y0 y1, LeO (impl_RowAfter.l0 k y0 y1) (impl_RowAfter.l0 (k + 1) y0 y1))
  | 0 => ⟨fun _ _ _ r h => by simp [impl_RowAfter.j0] at h, fun _ _ r h => by simp [impl_RowAfter.l0] at h⟩
  | k + 1 => by
    obtain ⟨ih0, ih1⟩ := impl_RowAfter.mono_l k
    refine ⟨?_, ?_⟩
    · intro y0 y1 y2
      unfold impl_RowAfter.j0
      repeat' first
      | (with_reducible exact ih0 _ _ _)
      | (with_reducible exact ih1 _ _)
      | (with_reducible exact LeO.refl _)
      | (with_reducible exact LeO.none _)
      | (with_reducible refine LeO.ite ?_ ?_)
      | (with_reducible refine LeO.bind ?_ (fun _ => ?_))
      | exact ih0 _ _ _
      | exact ih1 _ _
      | exact LeO.none _
      | refine LeO.ite ?_ ?_
      | refine LeO.bind ?_ (fun _ => ?_)
    · intro y0 y1
      unfold impl_RowAfter.l0
      repeat' first
      | (with_reducible exact ih0 _ _ _)
      | (with_reducible exact ih1 _ _)
      | (with_reducible exact LeO.refl _)
      | (with_reducible exact LeO.none _)
      | (with_reducible refine LeO.ite ?_ ?_)
      | (with_reducible refine LeO.bind ?_ (fun _ => ?_))
      | exact ih0 _ _ _
      | exact ih1 _ _
      | exact LeO.none _
      | refine LeO.ite ?_ ?_
      | refine LeO.bind ?_ (fun _ => ?_)
theorem impl_RowAfter.mono : ∀ a0 a1 k, LeO (impl_RowAfter.f k a0 a1) (impl_RowAfter.f (k + 1) a0 a1) := by
  intro a0 a1 k
  obtain ⟨ih0, ih1⟩ := impl_RowAfter.mono_l k
  unfold impl_RowAfter.f
  repeat' first
      | (with_reducible exact ih0 _ _ _)
      | (with_reducible exact ih1 _ _)
      | (with_reducible exact LeO.refl _)
      | (with_reducible exact LeO.none _)
      | (with_reducible refine LeO.ite ?_ ?_)
      | (with_reducible refine LeO.bind ?_ (fun _ => ?_))
      | exact ih0 _ _ _
      | exact ih1 _ _
      | exact LeO.none _
      | refine LeO.ite ?_ ?_
      | refine LeO.bind ?_ (fun _ => ?_)
set_option maxHeartbeats 8000000 in
set_option maxRecDepth 100000 in
theorem impl_RowAfter.calls (k : Nat) (a0 : ByteArray) (a1 : Int) (r1 : ByteArray) (r2 : Bool) (w : World) (hm : Dr.Tab w) (h : impl_RowAfter.f k a0 a1 = some (r1, r2)) :
  Calls Tryd.prog 87 #[.string a0, .int .i64 a1] w fun e w' => e = .returned (.tuple #[.string r1, .bool r2]) ∧ Below w.heap.size w w' := by
 have HB := Aside0.mk (Below.refl w.heap.size w)
 have HMM := Aside0.mk hm
 clear hm
 unfold impl_RowAfter.f at h
 have H := h
 clear h
 have HC3 := Aside0.mk H
 clear H
 go_enter Tryd.func87, Tryd.ntmps87
 go_upto_region 1 with (fail)
 go_cut [13] (fun v13 wc => ∃ (kq : Nat) (x13_2 : Bool), v13 = .bool x13_2 ∧ Aside0 (impl_RowAfter.j0 kq a0 a1 x13_2 = some (r1, r2)) ∧ Aside0 (kq ≤ k) ∧ Aside0 (Below w.heap.size w wc))
 case first =>
  have H := HC3.out
  clear HC3
  replace H := Option.bind_eq_some_iff.mp H
  obtain ⟨t159, A40, H⟩ := H
  (try dsimp only at H)
  have A4 := Aside0.mk A40
  clear A40
  by_cases c5 : t159 = true
  ·subst c5
   rw [if_pos rfl] at H
   replace H := Option.bind_eq_some_iff.mp H
   obtain ⟨t160, A60, H⟩ := H
   (try dsimp only at H)
   have A6 := Aside0.mk A60
   clear A60
   have H' := Aside0.mk H
   clear H
   go_wp2_with (first | ((with_reducible refine gate_callee (f := 58) rfl ?_); refine gl (some 7) Tryd.func58 #[.string a0] ?_; (with_reducible refine (impl_isRow.calls a0 true _ A4.out).mono ?_); rintro e w7 ⟨rfl, hb⟩; refine ⟨_, rfl, ?_⟩; replace HB := bs hb; (try clear hb)) | (go_at_call 65; (with_reducible refine (impl_in.calls a1 0 1000000 t160 _ A6.out).mono ?_); rintro e w' ⟨rfl, ⟨nd, rfl⟩⟩))
   go_meet
   case rel => exact ⟨_, (!t160), (rs), H', ⟨by first | omega | exact Nat.le_refl _⟩, ⟨bw⟩⟩
  ·replace c5 := Bool.eq_false_iff.mpr c5
   subst c5
   rw [if_neg (show ¬ (false = true) by decide)] at H
   have H' := Aside0.mk H
   clear H
   go_wp2_with (first | ((with_reducible refine gate_callee (f := 58) rfl ?_); refine gl (some 7) Tryd.func58 #[.string a0] ?_; (with_reducible refine (impl_isRow.calls a0 false _ A4.out).mono ?_); rintro e w8 ⟨rfl, hb⟩; refine ⟨_, rfl, ?_⟩; replace HB := bs hb; (try clear hb)))
   go_meet
   case rel => exact ⟨_, (true), (rs), H', ⟨by first | omega | exact Nat.le_refl _⟩, ⟨bw⟩⟩
 case rest =>
  clear HC3
  try clear p2
  try clear c5
  try clear c8
  obtain ⟨kq, x13_2, rfl, HA, HJ2, HB⟩ := hcut
  cases kq with
  | zero => exact absurd HA.out (by simp [impl_RowAfter.j0])
  | succ kj2 =>
   have H := HA.out
   clear HA
   simp only [impl_RowAfter.j0] at H
   by_cases c9 : x13_2 = true
   ·subst c9
    rw [if_pos rfl] at H
    simp only [Option.some.injEq, Prod.mk.injEq] at H
    obtain ⟨rfl, rfl⟩ := H
    go_wp2
    go_ret2
    exact ⟨rs, bw⟩
   ·replace c9 := Bool.eq_false_iff.mpr c9
    subst c9
    rw [if_neg (show ¬ (false = true) by decide)] at H
    have H' := Aside0.mk H
    clear H
    go_wp2
    go_loopg [0, 1] kj2 (fun kq v0 v1 w' => ∃ (x0_2 : ByteArray) (x1_2 : Int), v0 = .string x0_2 ∧ v1 = .int .i64 x1_2 ∧ Aside0 (impl_RowAfter.l0 kq x0_2 x1_2 = some (r1, r2)) ∧ Aside0 (kq ≤ kj2) ∧ Aside0 (Below w.heap.size w w'))
    case atStart => exact ⟨(a0), (a1), (rs), (rs), H', ⟨Nat.le_refl _⟩, ⟨bw⟩⟩
    case round =>
     clear H'
     try clear p2
     try clear c5
     try clear c8
     try clear c9
     try clear p2
     obtain ⟨x0_2, x1_2, rfl, rfl, HA, HK2, HB⟩ := hrel
     cases gk with
     | zero => exact absurd HA.out (by simp [impl_RowAfter.l0])
     | succ k2 =>
      have H := HA.out
      clear HA
      simp only [impl_RowAfter.l0] at H
      by_cases c10 : x1_2 > 0
      ·rw [if_pos c10] at H
       have c10b0 : decide (0 < x1_2) = true := decide_eq_true c10
       clear c10
       replace H := Option.bind_eq_some_iff.mp H
       obtain ⟨t161, A110, H⟩ := H
       (try dsimp only at H)
       have A11 := Aside0.mk A110
       clear A110
       by_cases c12 : t161 = true
       ·subst c12
        rw [if_pos rfl] at H
        simp only [Option.some.injEq, Prod.mk.injEq] at H
        obtain ⟨rfl, rfl⟩ := H
        go_wp2_with (first | (go_at_call 113; (with_reducible refine (impl_isAtRest.calls x0_2 true _ ?side1 A11.out).mono ?_); (case side1 => first | exact HMM.out | exact Dr.Tab.below HMM.out bw | (repeat (first | exact HMM.out | apply Dr.Tab.drewN | apply Dr.Tab.drew | apply Dr.Tab.alloc))); rintro e w' ⟨rfl, ⟨nd, rfl⟩⟩))
        go_ret2
        exact ⟨rs, bw⟩
       ·replace c12 := Bool.eq_false_iff.mpr c12
        subst c12
        rw [if_neg (show ¬ (false = true) by decide)] at H
        replace H := Option.bind_eq_some_iff.mp H
        obtain ⟨t162, A130, H⟩ := H
        (try dsimp only at H)
        have A13 := Aside0.mk A130
        clear A130
        have H' := Aside0.mk H
        clear H
        go_wp2_with (first | (go_at_call 113; (with_reducible refine (impl_isAtRest.calls x0_2 false _ ?side1 A11.out).mono ?_); (case side1 => first | exact HMM.out | exact Dr.Tab.below HMM.out bw | (repeat (first | exact HMM.out | apply Dr.Tab.drewN | apply Dr.Tab.drew | apply Dr.Tab.alloc))); rintro e w' ⟨rfl, ⟨nd, rfl⟩⟩) | ((with_reducible refine gate_callee (f := 114) rfl ?_); refine gl (some 24) Tryd.func114 #[.string x0_2] ?_; (with_reducible refine (impl_tick.calls x0_2 t162 _ ?side1 A13.out).mono ?_); (case side1 => first | exact HMM.out | exact Dr.Tab.below HMM.out bw | (repeat (first | exact HMM.out | apply Dr.Tab.drewN | apply Dr.Tab.drew | apply Dr.Tab.alloc))); rintro e w14 ⟨rfl, hb⟩; refine ⟨_, rfl, ?_⟩; replace HB := bs hb; (try clear hb)))
        go_roundg k2
        case measure => have := HJ2.out; have := HK2.out; omega
        case rel => exact ⟨(t162), (wrap64 (x1_2 - 1)), (rs), (rs), H', ⟨by have := HJ2.out; have := HK2.out; omega⟩, ⟨bw⟩⟩
      ·rw [if_neg c10] at H
       have c10b0 : decide (0 < x1_2) = false := decide_eq_false c10
       clear c10
       simp only [Option.some.injEq, Prod.mk.injEq] at H
       obtain ⟨rfl, rfl⟩ := H
       go_wp2
       go_ret2
       exact ⟨rs, bw⟩

/-! ### strings_Count: function 88 -/
def strings_Count.f (a0 : ByteArray) (a1 : ByteArray) : Option Int := match a1.data.toList with
  | [c] => some (Lib.countByte a0.data.toList c)
  | _ => none
theorem strings_Count.calls (a0 : ByteArray) (a1 : ByteArray) (r : Int) (w : World) (h : strings_Count.f a0 a1 = some r) :
  Calls Tryd.prog 88 #[.string a0, .string a1] w fun e w' => e = .returned (.int .i64 r) ∧ Below w.heap.size w w' := by
 unfold strings_Count.f at h
 split at h
 ·next c hc =>
  obtain rfl := Option.some.inj h
  obtain rfl : a1 = ⟨#[c]⟩ := by rw [← Lib.mk_data a1, hc]
  have c : Calls Tryd.prog 88 #[.string a0, .string ⟨#[c]⟩] w _ := Any.strings_Count_one Tryd.lays138 a0 c w
  exact c.mono fun e w' ⟨h1, h2⟩ => ⟨h1, h2 ▸ Below.refl _ _⟩
 ·cases h

/-! ### impl_history: function 118 -/
def impl_history.l0 : Nat → ByteArray → Option ByteArray
  | 0, _ => none
  | k + 1, x => (impl_isAtRest.f x).bind fun t => if t = true then some x else (impl_tick.f x).bind fun y => impl_history.l0 k y
set_option maxHeartbeats 8000000 in
set_option maxRecDepth 100000 in
theorem impl_history.calls (k : Nat) (gf : FuncId) (fn : Func) (cap : Array Value) (hf : Tryd.prog.funcs[gf]? = some fn) (hnm : (fn.name == "runtime.NumGoroutine") = false) (hbd : fn.body.isSome = true)
  (J : ByteArray → World → Prop) (hT : ∀ x w, J x w → Dr.Tab w) (hJ : ∀ x w w', J x w → Below w.heap.size w w' → J x w')
  (hstep : ∀ x y w, J x w → impl_isAtRest.f x = some false → impl_tick.f x = some y → Calls Tryd.prog gf (#[.string x] ++ cap) w fun e w' => e = .returned (.tuple #[]) ∧ J y w')
  (x r : ByteArray) (w : World) (hj : J x w) (h : impl_history.l0 k x = some r) :
  Calls Tryd.prog 118 #[.string x, .func (.func gf) #[] cap] w fun e w' => e = .returned (.string r) ∧ J r w' ∧ impl_isAtRest.f r = some true := by
 have H' := Aside0.mk h
 have HJ := Aside0.mk hj
 clear h hj
 go_enter Tryd.func118, Tryd.ntmps118
 go_wp2
 go_loopg [0] k (fun kq v0 w' => ∃ (x0 : ByteArray), v0 = .string x0 ∧ Aside0 (impl_history.l0 kq x0 = some r) ∧ Aside0 (kq ≤ k) ∧ Aside0 (J x0 w'))
 case atStart => exact ⟨x, rfl, H', ⟨Nat.le_refl _⟩, HJ⟩
 case round =>
  clear H' HJ
  obtain ⟨x0, rfl, HA, HK1, HJ⟩ := hrel
  cases gk with
  | zero => exact absurd HA.out (by simp [impl_history.l0])
  | succ k1 =>
   have H := HA.out
   clear HA
   simp only [impl_history.l0] at H
   replace H := Option.bind_eq_some_iff.mp H
   obtain ⟨t, A0, H⟩ := H
   have A1 := Aside0.mk A0
   clear A0
   cases t with
   | true =>
    obtain rfl := Option.some.inj H
    clear H
    go_wp2_with ((go_at_call 113; (with_reducible refine (impl_isAtRest.calls x0 true _ (hT _ _ HJ.out) A1.out).mono ?_); rintro e w' ⟨rfl, ⟨nd, rfl⟩⟩))
    go_ret
    exact ⟨rfl, hJ _ _ _ HJ.out (by exact ⟨rfl, rfl, rfl, Nat.le_refl _, fun _ _ => rfl⟩), A1.out⟩
   | false =>
    rw [if_neg (by decide)] at H
    replace H := Option.bind_eq_some_iff.mp H
    obtain ⟨y, A0, H⟩ := H
    have A2 := Aside0.mk A0
    clear A0
    have H' := Aside0.mk H
    clear H
    go_wp2_with (first
     | ((with_reducible refine gate_dst (N := 10) rfl ?_); refine Fv.goesV_ (some 10) rfl rfl hf hnm hbd #[.string x0] rfl (by first | rfl | (go_simp; done)) (by first | rfl | (go_simp; done)) ?_; refine (hstep x0 y _ HJ.out A1.out A2.out).mono ?_; rintro e w' ⟨rfl, hj2⟩; refine ⟨_, rfl, ?_⟩; replace HJ := Aside0.mk hj2; clear hj2)
     | (go_at_call 113; (with_reducible refine (impl_isAtRest.calls x0 false _ (hT _ _ HJ.out) A1.out).mono ?_); rintro e w' ⟨rfl, ⟨nd, rfl⟩⟩; replace HJ := Aside0.mk (hJ _ _ _ HJ.out (show Below _ _ (World.drewN _ nd) from ⟨rfl, rfl, rfl, Nat.le_refl _, fun _ _ => rfl⟩)))
     | (go_at_call 114; (with_reducible refine (impl_tick.calls x0 y _ (hT _ _ HJ.out) A2.out).mono ?_); rintro e w' ⟨rfl, hb⟩; replace HJ := Aside0.mk (hJ _ _ _ HJ.out hb); clear hb))
    go_roundg k1
    case measure => have := HK1.out; omega
    case rel => exact ⟨y, rfl, H', ⟨by have := HK1.out; omega⟩, HJ⟩

end Go.Proofs.YtmindeeacfdonaaDoor.PFnExactMakePuzzle
