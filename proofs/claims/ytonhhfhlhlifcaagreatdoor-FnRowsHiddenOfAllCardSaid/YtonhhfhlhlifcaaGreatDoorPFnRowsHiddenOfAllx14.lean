-- Laid by xprint, a program of this session that runs over the kit's print.
import Derived.Test.YtonhhfhlhlifcaaGreatDoorPFnRowsHiddenOfAllx13
namespace Go.Proofs.YtonhhfhlhlifcaaGreatDoor.PFnRowsHiddenOfAll
open Go.RowKit Go.Proofs.YtonhhfhlhlifcaaGreatDoorW.PrintWords Go.Proofs.YtonhhfhlhlifcaaGreatDoorW.PrintLast Go.Proofs.YtonhhfhlhlifcaaGreatDoorW.PrintMore Go.Proofs.YtonhhfhlhlifcaaGreatDoor.Sq
attribute [local go_sem] max2_int min2_int max_two min_two max_three min_three max_four min_four   -- for this text's walks alone
set_option linter.unusedVariables false
set_option linter.unusedSimpArgs false

/-! ### impl_AddClue: function 19 -/
def impl_AddClue.f (k : Nat) (a0_0 : Int) (l0_1 : List (S26)) (a1_0 : Int) (a1_1 : Int) (a1_2 : Int) (a1_3 : Int) : Option (Int × (List (S26)) × Bool) := (impl_Clue.f l0_1).bind fun t323 => ((some (([(⟨a1_0, a1_1, a1_2, a1_3⟩ : S26)] : List (S26)) : List (S26))).bind fun y326 => (if t323.length + y326.length < 4398046511104 then ((some (t323 ++ y326 : List (S26))).bind fun y329 => ((impl_isPuzzle.f k a0_0 y329).bind fun t333 => (if t333 = true then (some (a0_0, y329, true)) else (some (0, ([] : List (S26)), false))))) else (none)))
theorem impl_AddClue.mono : ∀ a0 a1 a2 a3 a4 a5 k, LeO (impl_AddClue.f k a0 a1 a2 a3 a4 a5) (impl_AddClue.f (k + 1) a0 a1 a2 a3 a4 a5) := by
  intro a0 a1 a2 a3 a4 a5 k
  unfold impl_AddClue.f
  repeat' first
      | (with_reducible exact impl_isPuzzle.mono _ _ _)
      | (with_reducible exact LeO.refl _)
      | (with_reducible exact LeO.none _)
      | (with_reducible refine LeO.ite ?_ ?_)
      | (with_reducible refine LeO.bind ?_ (fun _ => ?_))
      | exact impl_isPuzzle.mono _ _ _
      | exact LeO.none _
      | refine LeO.ite ?_ ?_
      | refine LeO.bind ?_ (fun _ => ?_)
def impl_AddClue.T1 : Bool × List (List Nat × List Nat) := (true, [([], []), ([0], [0]), ([], []), ([2], [2]), ([3], [3]), ([], []), ([5], [5]), ([4, 6, 4], [4, 6]), ([1, 7], [1, 7]), ([], []), ([9, 8, 7, 0, 1, 2, 3, 4, 5, 6, 7, 8, 9], [8, 9])])
def impl_AddClue.B1 : List Nat := [0, 1, 0, 4, 12, 0, 32, 124, 255, 0, 1023]
theorem impl_AddClue.tab1 : rtab .any (opsOf Tryz.f19 1) = impl_AddClue.T1 := by kernel_rfl
theorem impl_AddClue.bits1 : waitsOk impl_AddClue.T1.2 impl_AddClue.B1 = true := by kernel_rfl
set_option maxHeartbeats 8000000 in
set_option maxRecDepth 100000 in
theorem impl_AddClue.calls (k : Nat) (a0_0 : Int) (A0_1 : Option Addr) (c0_1 : Nat) (l0_1 : List (S26)) (a1_0 : Int) (a1_1 : Int) (a1_2 : Int) (a1_3 : Int) (r1 : Int) (r2 : List (S26)) (r3 : Bool) (w : World) (hr0_1 : Kd.C k26 w A0_1 l0_1.length l0_1) (hc0_1 : l0_1.length ≤ c0_1) (h : impl_AddClue.f k a0_0 l0_1 a1_0 a1_1 a1_2 a1_3 = some (r1, r2, r3)) :
  Calls Tryz.prog 19 #[.agg #[.int .i64 a0_0, .slice A0_1 l0_1.length c0_1], .agg #[.int .i64 a1_0, .int .i64 a1_1, .int .i64 a1_2, .int .i64 a1_3]] w fun e w' => ∃ v1_ : Value, e = .returned (.tuple #[.agg #[.int .i64 r1, v1_], .bool r3]) ∧ Kd.R k26 26 w' w.heap.size (fun _ => True) v1_ r2 ∧ Below w.heap.size w w' := by
 have hu24 := Tryz.underlying24
 have hu26 := Tryz.underlying26
 have HR0_1 := Aside0.mk hr0_1
 have HC0_1 := Aside0.mk hc0_1
 clear hr0_1 hc0_1
 have HB := Aside0.mk (Below.refl w.heap.size w)
 unfold impl_AddClue.f at h
 have H := h
 clear h
 obtain ⟨t323, A3, H⟩ := ob H
 (try dsimp only at H)
 obtain ⟨y326, hy326⟩ : ∃ y_ : List (S26), y_ = (([(⟨a1_0, a1_1, a1_2, a1_3⟩ : S26)] : List (S26))) := ⟨_, rfl⟩
 replace H : (if t323.length + y326.length < 4398046511104 then ((some (t323 ++ y326 : List (S26))).bind fun y329 => ((impl_isPuzzle.f k a0_0 y329).bind fun t333 => (if t333 = true then (some (a0_0, y329, true)) else (some (0, ([] : List (S26)), false))))) else (none)) = some (r1, r2, r3) := by first | (rw [hy326]; with_reducible exact H) | (have H2_ := (Option.bind_some _ _).symm.trans H; rw [hy326]; with_reducible exact H2_) | (have H2_ := (Option.bind_some _ _).symm.trans H; with_reducible exact H2_) | with_reducible exact H | (rw [hy326]; exact H) | exact H
 have Ny326 := Aside0.mk hy326
 clear hy326
 obtain ⟨c4, H⟩ := oi H
 have LMc4 := Aside0.mk c4
 clear c4
 obtain ⟨y329, hy329⟩ : ∃ y_ : List (S26), y_ = (t323 ++ y326) := ⟨_, rfl⟩
 replace H : ((impl_isPuzzle.f k a0_0 y329).bind fun t333 => (if t333 = true then (some (a0_0, y329, true)) else (some (0, ([] : List (S26)), false)))) = some (r1, r2, r3) := by first | (rw [hy329]; with_reducible exact H) | (have H2_ := (Option.bind_some _ _).symm.trans H; rw [hy329]; with_reducible exact H2_) | (have H2_ := (Option.bind_some _ _).symm.trans H; with_reducible exact H2_) | with_reducible exact H | (rw [hy329]; exact H) | exact H
 have Ny329 := Aside0.mk hy329
 clear hy329
 obtain ⟨t333, A5, H⟩ := ob H
 (try dsimp only at H)
 go_enter Tryz.func19, Tryz.ntmps19
 try go_wp2_with (first | ((with_reducible refine gd 2 ?_); refine bx 2 24 #[.int .i64 a0_0, .slice A0_1 l0_1.length c0_1] ?_; intro gb320 hg w7 hbox hb; have BK320 := hbox; have GW320 := gs hg; have GE320 := gs hg; replace HB := bs hb; clear hb hbox hg) | ((with_reducible refine gd 3 ?_); refine bx 3 26 #[.int .i64 a1_0, .int .i64 a1_1, .int .i64 a1_2, .int .i64 a1_3] ?_; intro gb321 hg w8 hbox hb; have BK321 := hbox; have GW321 := gs hg; have GE321 := gs hg; replace HB := bs hb; have ⟨NB320_321, NB321_320⟩ := nn BK320 hg; replace BK320 := nk BK320 hb; clear hb hbox hg) | ((with_reducible refine gd 4 ?_); refine bx 4 24 #[.int .i64 0, .slice none 0 0] ?_; intro gb322 hg w9 hbox hb; have BK322 := hbox; have GW322 := gs hg; have GE322 := gs hg; replace HB := bs hb; have ⟨NB320_322, NB322_320⟩ := nn BK320 hg; replace BK320 := nk BK320 hb; have ⟨NB321_322, NB322_321⟩ := nn BK321 hg; replace BK321 := nk BK321 hb; clear hb hbox hg))
 replace BK320 := Aside0.mk (blk_drew BK320.out)
 replace BK321 := Aside0.mk (blk_drew BK321.out)
 replace BK322 := Aside0.mk (blk_drew BK322.out)
 replace HB := Aside0.mk (below_drew1 HB.out)
 refine start_ (n := 11) (S := fun w' => w'.cell? ⟨gb320, 0, none⟩ = some (.int .i64 a0_0) ∧ w'.cell? ⟨gb320, 1, none⟩ = some (.slice A0_1 l0_1.length c0_1) ∧ w'.cell? ⟨gb321, 0, none⟩ = some (.int .i64 a1_0) ∧ w'.cell? ⟨gb321, 1, none⟩ = some (.int .i64 a1_1) ∧ w'.cell? ⟨gb321, 2, none⟩ = some (.int .i64 a1_2) ∧ w'.cell? ⟨gb321, 3, none⟩ = some (.int .i64 a1_3)) (ds := []) (tb 11 0) (by kernel_rfl) rfl rfl ⟨ec BK320, ec BK320, ec BK321, ec BK321, ec BK321, ec BK321⟩ (fun hHeld => ?_); refine with_tabW impl_AddClue.tab1 impl_AddClue.bits1 (fun HT_ HW_ => ?_)
 generalize w9.drew = w10 at BK320 BK321 BK322 HB hHeld ⊢
 refine pu 0 (some 7) (tb 11 1) ?_
 refine pu 2 (some 9) (tb 11 5) ?_
 refine tk 1 (some 8) (tb 11 7) hHeld ?_
 refine tk 3 (some 10) (tb 11 15) hHeld ?_
 refine tk 5 (some 12) (tb 11 47) hHeld ?_
 refine join_ (σ := Value × Value × Value × Nat) 1 (tb 11 1023) (fun s_ => [(11, s_.1), (13, s_.2.1), (14, s_.2.2.1), (6, .pointer (some ⟨s_.2.2.2, 0, none⟩)), (15, .agg #[.int .i64 a0_0, s_.2.2.1])]) (fun s_ w' => (w'.cell? ⟨gb320, 0, none⟩ = some (.int .i64 a0_0) ∧ w'.cell? ⟨gb320, 1, none⟩ = some (.slice A0_1 l0_1.length c0_1) ∧ w'.cell? ⟨gb321, 0, none⟩ = some (.int .i64 a1_0) ∧ w'.cell? ⟨gb321, 1, none⟩ = some (.int .i64 a1_1) ∧ w'.cell? ⟨gb321, 2, none⟩ = some (.int .i64 a1_2) ∧ w'.cell? ⟨gb321, 3, none⟩ = some (.int .i64 a1_3)) ∧ (Kd.R k26 26 w' w.heap.size (fun k_ => some k_ ≠ (s_.2.2.1 : Value).ownBlock ∧ k_ ≠ gb321) s_.2.1 y326) ∧ (Kd.R k26 26 w' w.heap.size (fun k_ => some k_ ≠ (s_.2.1 : Value).ownBlock ∧ k_ ≠ gb321) s_.2.2.1 y329) ∧ (w'.heap[gb320]? = some (.cells #[.int .i64 a0_0, .slice A0_1 l0_1.length c0_1] 24 (0, 0))) ∧ (w'.heap[gb321]? = some (.cells #[.int .i64 a1_0, .int .i64 a1_1, .int .i64 a1_2, .int .i64 a1_3] 26 (0, 0))) ∧ (w'.heap[gb322]? = some (.cells #[.int .i64 0, .slice none 0 0] 24 (0, 0))) ∧ (w'.heap[s_.2.2.2]? = some (.cells #[.int .i64 0, .slice none 0 0] 24 (0, 0))) ∧ (w.heap.size ≤ s_.2.2.2) ∧ (w.heap.size ≤ s_.2.2.2) ∧ (gb320 ≠ s_.2.2.2) ∧ (s_.2.2.2 ≠ gb320) ∧ (gb321 ≠ s_.2.2.2) ∧ (s_.2.2.2 ≠ gb321) ∧ (gb322 ≠ s_.2.2.2) ∧ (s_.2.2.2 ≠ gb322) ∧ (Below w.heap.size w w')) ?_ ?_
 rotate_left
 ·intro hJ4_6_7_9
  refine join_ (σ := Value × Value × Value) 2 (tb 11 511) (fun s_ => [(11, s_.1), (13, s_.2.1), (14, s_.2.2), (15, .agg #[.int .i64 a0_0, s_.2.2])]) (fun s_ w' => (w'.cell? ⟨gb320, 0, none⟩ = some (.int .i64 a0_0) ∧ w'.cell? ⟨gb320, 1, none⟩ = some (.slice A0_1 l0_1.length c0_1) ∧ w'.cell? ⟨gb321, 0, none⟩ = some (.int .i64 a1_0) ∧ w'.cell? ⟨gb321, 1, none⟩ = some (.int .i64 a1_1) ∧ w'.cell? ⟨gb321, 2, none⟩ = some (.int .i64 a1_2) ∧ w'.cell? ⟨gb321, 3, none⟩ = some (.int .i64 a1_3)) ∧ (Kd.R k26 26 w' w.heap.size (fun k_ => some k_ ≠ (s_.2.2 : Value).ownBlock ∧ k_ ≠ gb321) s_.2.1 y326) ∧ (Kd.R k26 26 w' w.heap.size (fun k_ => some k_ ≠ (s_.2.1 : Value).ownBlock ∧ k_ ≠ gb321) s_.2.2 y329) ∧ (w'.heap[gb320]? = some (.cells #[.int .i64 a0_0, .slice A0_1 l0_1.length c0_1] 24 (0, 0))) ∧ (w'.heap[gb321]? = some (.cells #[.int .i64 a1_0, .int .i64 a1_1, .int .i64 a1_2, .int .i64 a1_3] 26 (0, 0))) ∧ (w'.heap[gb322]? = some (.cells #[.int .i64 0, .slice none 0 0] 24 (0, 0))) ∧ (Below w.heap.size w w')) ?_ ?_
  rotate_left
  ·intro hJ4_6_7
   refine join_ (σ := Value × Value × Nat) 3 (tb 11 639) (fun s_ => [(11, s_.1), (13, s_.2.1), (6, .pointer (some ⟨s_.2.2, 0, none⟩))]) (fun s_ w' => (w'.cell? ⟨gb320, 0, none⟩ = some (.int .i64 a0_0) ∧ w'.cell? ⟨gb320, 1, none⟩ = some (.slice A0_1 l0_1.length c0_1) ∧ w'.cell? ⟨gb321, 0, none⟩ = some (.int .i64 a1_0) ∧ w'.cell? ⟨gb321, 1, none⟩ = some (.int .i64 a1_1) ∧ w'.cell? ⟨gb321, 2, none⟩ = some (.int .i64 a1_2) ∧ w'.cell? ⟨gb321, 3, none⟩ = some (.int .i64 a1_3)) ∧ (Kd.R k26 26 w' w.heap.size (fun k_ => some k_ ≠ (s_.2.1 : Value).ownBlock ∧ k_ ≠ gb321) s_.1 t323) ∧ (Kd.R k26 26 w' w.heap.size (fun k_ => some k_ ≠ (s_.1 : Value).ownBlock ∧ k_ ≠ gb321) s_.2.1 y326) ∧ (w'.heap[gb320]? = some (.cells #[.int .i64 a0_0, .slice A0_1 l0_1.length c0_1] 24 (0, 0))) ∧ (w'.heap[gb321]? = some (.cells #[.int .i64 a1_0, .int .i64 a1_1, .int .i64 a1_2, .int .i64 a1_3] 26 (0, 0))) ∧ (w'.heap[gb322]? = some (.cells #[.int .i64 0, .slice none 0 0] 24 (0, 0))) ∧ (w'.heap[s_.2.2]? = some (.cells #[.int .i64 0, .slice none 0 0] 24 (0, 0))) ∧ (w.heap.size ≤ s_.2.2) ∧ (w.heap.size ≤ s_.2.2) ∧ (gb320 ≠ s_.2.2) ∧ (s_.2.2 ≠ gb320) ∧ (gb321 ≠ s_.2.2) ∧ (s_.2.2 ≠ gb321) ∧ (gb322 ≠ s_.2.2) ∧ (s_.2.2 ≠ gb322) ∧ (Below w.heap.size w w')) ?_ ?_
   rotate_left
   ·intro hJ4_6_9
    refine join_ (σ := Value × Value) 4 (tb 11 127) (fun s_ => [(11, s_.1), (13, s_.2)]) (fun s_ w' => (w'.cell? ⟨gb320, 0, none⟩ = some (.int .i64 a0_0) ∧ w'.cell? ⟨gb320, 1, none⟩ = some (.slice A0_1 l0_1.length c0_1) ∧ w'.cell? ⟨gb321, 0, none⟩ = some (.int .i64 a1_0) ∧ w'.cell? ⟨gb321, 1, none⟩ = some (.int .i64 a1_1) ∧ w'.cell? ⟨gb321, 2, none⟩ = some (.int .i64 a1_2) ∧ w'.cell? ⟨gb321, 3, none⟩ = some (.int .i64 a1_3)) ∧ (Kd.R k26 26 w' w.heap.size (fun k_ => some k_ ≠ (s_.2 : Value).ownBlock ∧ k_ ≠ gb321) s_.1 t323) ∧ (Kd.R k26 26 w' w.heap.size (fun k_ => some k_ ≠ (s_.1 : Value).ownBlock ∧ k_ ≠ gb321) s_.2 y326) ∧ (w'.heap[gb320]? = some (.cells #[.int .i64 a0_0, .slice A0_1 l0_1.length c0_1] 24 (0, 0))) ∧ (w'.heap[gb321]? = some (.cells #[.int .i64 a1_0, .int .i64 a1_1, .int .i64 a1_2, .int .i64 a1_3] 26 (0, 0))) ∧ (w'.heap[gb322]? = some (.cells #[.int .i64 0, .slice none 0 0] 24 (0, 0))) ∧ (Below w.heap.size w w')) ?_ ?_
    rotate_left
    ·intro hJ4_6
     refine join_ (σ := Value × Nat) 4 (tb 11 575) (fun s_ => [(11, s_.1), (6, .pointer (some ⟨s_.2, 0, none⟩))]) (fun s_ w' => (w'.cell? ⟨gb320, 0, none⟩ = some (.int .i64 a0_0) ∧ w'.cell? ⟨gb320, 1, none⟩ = some (.slice A0_1 l0_1.length c0_1) ∧ w'.cell? ⟨gb321, 0, none⟩ = some (.int .i64 a1_0) ∧ w'.cell? ⟨gb321, 1, none⟩ = some (.int .i64 a1_1) ∧ w'.cell? ⟨gb321, 2, none⟩ = some (.int .i64 a1_2) ∧ w'.cell? ⟨gb321, 3, none⟩ = some (.int .i64 a1_3)) ∧ (Kd.R k26 26 w' w.heap.size (fun k_ => k_ ≠ gb321) s_.1 t323) ∧ (w'.heap[gb320]? = some (.cells #[.int .i64 a0_0, .slice A0_1 l0_1.length c0_1] 24 (0, 0))) ∧ (w'.heap[gb321]? = some (.cells #[.int .i64 a1_0, .int .i64 a1_1, .int .i64 a1_2, .int .i64 a1_3] 26 (0, 0))) ∧ (w'.heap[gb322]? = some (.cells #[.int .i64 0, .slice none 0 0] 24 (0, 0))) ∧ (w'.heap[s_.2]? = some (.cells #[.int .i64 0, .slice none 0 0] 24 (0, 0))) ∧ (w.heap.size ≤ s_.2) ∧ (w.heap.size ≤ s_.2) ∧ (gb320 ≠ s_.2) ∧ (s_.2 ≠ gb320) ∧ (gb321 ≠ s_.2) ∧ (s_.2 ≠ gb321) ∧ (gb322 ≠ s_.2) ∧ (s_.2 ≠ gb322) ∧ (Below w.heap.size w w')) ?_ ?_
     rotate_left
     ·intro hJ4_9
      refine join_ (σ := Value × Nat) 4 (tb 11 623) (fun s_ => [(13, s_.1), (6, .pointer (some ⟨s_.2, 0, none⟩))]) (fun s_ w' => (w'.cell? ⟨gb320, 0, none⟩ = some (.int .i64 a0_0) ∧ w'.cell? ⟨gb320, 1, none⟩ = some (.slice A0_1 l0_1.length c0_1) ∧ w'.cell? ⟨gb321, 0, none⟩ = some (.int .i64 a1_0) ∧ w'.cell? ⟨gb321, 1, none⟩ = some (.int .i64 a1_1) ∧ w'.cell? ⟨gb321, 2, none⟩ = some (.int .i64 a1_2) ∧ w'.cell? ⟨gb321, 3, none⟩ = some (.int .i64 a1_3)) ∧ (Kd.R k26 26 w' w.heap.size (fun k_ => k_ ≠ gb321) s_.1 y326) ∧ (w'.heap[gb320]? = some (.cells #[.int .i64 a0_0, .slice A0_1 l0_1.length c0_1] 24 (0, 0))) ∧ (w'.heap[gb321]? = some (.cells #[.int .i64 a1_0, .int .i64 a1_1, .int .i64 a1_2, .int .i64 a1_3] 26 (0, 0))) ∧ (w'.heap[gb322]? = some (.cells #[.int .i64 0, .slice none 0 0] 24 (0, 0))) ∧ (w'.heap[s_.2]? = some (.cells #[.int .i64 0, .slice none 0 0] 24 (0, 0))) ∧ (w.heap.size ≤ s_.2) ∧ (w.heap.size ≤ s_.2) ∧ (gb320 ≠ s_.2) ∧ (s_.2 ≠ gb320) ∧ (gb321 ≠ s_.2) ∧ (s_.2 ≠ gb321) ∧ (gb322 ≠ s_.2) ∧ (s_.2 ≠ gb322) ∧ (Below w.heap.size w w')) ?_ ?_
      rotate_left
      ·intro hJ6_9
       refine join_ (σ := Value) 5 (tb 11 63) (fun s_ => [(11, s_)]) (fun s_ w' => (w'.cell? ⟨gb320, 0, none⟩ = some (.int .i64 a0_0) ∧ w'.cell? ⟨gb320, 1, none⟩ = some (.slice A0_1 l0_1.length c0_1) ∧ w'.cell? ⟨gb321, 0, none⟩ = some (.int .i64 a1_0) ∧ w'.cell? ⟨gb321, 1, none⟩ = some (.int .i64 a1_1) ∧ w'.cell? ⟨gb321, 2, none⟩ = some (.int .i64 a1_2) ∧ w'.cell? ⟨gb321, 3, none⟩ = some (.int .i64 a1_3)) ∧ (Kd.R k26 26 w' w.heap.size (fun k_ => k_ ≠ gb321) s_ t323) ∧ (w'.heap[gb320]? = some (.cells #[.int .i64 a0_0, .slice A0_1 l0_1.length c0_1] 24 (0, 0))) ∧ (w'.heap[gb321]? = some (.cells #[.int .i64 a1_0, .int .i64 a1_1, .int .i64 a1_2, .int .i64 a1_3] 26 (0, 0))) ∧ (w'.heap[gb322]? = some (.cells #[.int .i64 0, .slice none 0 0] 24 (0, 0))) ∧ (Below w.heap.size w w')) ?_ ?_
       rotate_left
       ·intro hJ4
        refine join_ (σ := Value) 5 (tb 11 111) (fun s_ => [(13, s_)]) (fun s_ w' => (w'.cell? ⟨gb320, 0, none⟩ = some (.int .i64 a0_0) ∧ w'.cell? ⟨gb320, 1, none⟩ = some (.slice A0_1 l0_1.length c0_1) ∧ w'.cell? ⟨gb321, 0, none⟩ = some (.int .i64 a1_0) ∧ w'.cell? ⟨gb321, 1, none⟩ = some (.int .i64 a1_1) ∧ w'.cell? ⟨gb321, 2, none⟩ = some (.int .i64 a1_2) ∧ w'.cell? ⟨gb321, 3, none⟩ = some (.int .i64 a1_3)) ∧ (Kd.R k26 26 w' w.heap.size (fun k_ => k_ ≠ gb321) s_ y326) ∧ (w'.heap[gb320]? = some (.cells #[.int .i64 a0_0, .slice A0_1 l0_1.length c0_1] 24 (0, 0))) ∧ (w'.heap[gb321]? = some (.cells #[.int .i64 a1_0, .int .i64 a1_1, .int .i64 a1_2, .int .i64 a1_3] 26 (0, 0))) ∧ (w'.heap[gb322]? = some (.cells #[.int .i64 0, .slice none 0 0] 24 (0, 0))) ∧ (Below w.heap.size w w')) ?_ ?_
        rotate_left
        ·intro hJ6
         refine join_ (σ := Nat) 5 (tb 11 559) (fun s_ => [(6, .pointer (some ⟨s_, 0, none⟩))]) (fun s_ w' => (w'.cell? ⟨gb320, 0, none⟩ = some (.int .i64 a0_0) ∧ w'.cell? ⟨gb320, 1, none⟩ = some (.slice A0_1 l0_1.length c0_1) ∧ w'.cell? ⟨gb321, 0, none⟩ = some (.int .i64 a1_0) ∧ w'.cell? ⟨gb321, 1, none⟩ = some (.int .i64 a1_1) ∧ w'.cell? ⟨gb321, 2, none⟩ = some (.int .i64 a1_2) ∧ w'.cell? ⟨gb321, 3, none⟩ = some (.int .i64 a1_3)) ∧ (w'.heap[gb320]? = some (.cells #[.int .i64 a0_0, .slice A0_1 l0_1.length c0_1] 24 (0, 0))) ∧ (w'.heap[gb321]? = some (.cells #[.int .i64 a1_0, .int .i64 a1_1, .int .i64 a1_2, .int .i64 a1_3] 26 (0, 0))) ∧ (w'.heap[gb322]? = some (.cells #[.int .i64 0, .slice none 0 0] 24 (0, 0))) ∧ (w'.heap[s_]? = some (.cells #[.int .i64 0, .slice none 0 0] 24 (0, 0))) ∧ (w.heap.size ≤ s_) ∧ (w.heap.size ≤ s_) ∧ (gb320 ≠ s_) ∧ (s_ ≠ gb320) ∧ (gb321 ≠ s_) ∧ (s_ ≠ gb321) ∧ (gb322 ≠ s_) ∧ (s_ ≠ gb322) ∧ (Below w.heap.size w w')) ?_ ?_
         rotate_left
         ·intro hJ9
          refine three_ (i := 4) (j := 6) (k := 9) (Ni := some 11) (Nj := some 13) (Nk := some 6) (tb 11 63) (tb 11 111) (tb 11 559) rfl rfl rfl rfl rfl rfl (three_of HT_.out (by kernel_rfl)) (by decide) (by decide) (by decide) (fun K hK => ?_) (fun K hK => ?_) (fun K hK => ?_)
          ·skip
           refine go1 Tryz.func44 #[.slice A0_1 l0_1.length c0_1] ?_
           with_reducible refine (impl_Clue.calls _ _ l0_1 t323 _ ?side1 ?side2 A3.out).mono ?_
           (case side1 => exact cb HR0_1)
           (case side2 => exact HC0_1.out)
           rintro e w11 ⟨v324, rfl, ho0, hb⟩
           refine ⟨_, rfl, ?_⟩
           have HO325 := Aside0.mk (Kd.R_lower (Kd.R_newB ho0 (pk BK321)) (below_size bw))
           replace BK320 := nk BK320 hb
           replace BK321 := nk BK321 hb
           replace BK322 := nk BK322 hb
           replace HB := bs hb
           (try clear hb)
           (try clear ho0)
           refine hK.out _ _ ⟨ec BK320, ec BK320, ec BK321, ec BK321, ec BK321, ec BK321⟩ (fun hHeld => ?_)
           clear hK K
           refine nm (some 11) ?_
           exact nx (hJ4 (v324) _ ⟨hHeld, (by (with_reducible repeat (first | apply Kd.R_alloc | apply Kd.R_drewN | apply Kd.R_drew)); exact Kd.R_mono HO325.out (fun _ hk => hk.2)), (pk BK320), (pk BK321), (pk BK322), bw⟩)
          ·skip
           refine Kd.R_lit_step k26 _ 26 ?hg (N := 13) ?hd (xs := ([(⟨a1_0, a1_1, a1_2, a1_3⟩ : S26)] : List (S26))) (inner := [.int .i64 a1_0, .int .i64 a1_1, .int .i64 a1_2, .int .i64 a1_3]) (ok := fun _ => True) (okp := fun _ => True) ?hr ?hp (fun _ hk => hk) trivial (Below.refl _ _) (Nat.le_refl _) (by simp) ?_; (case hd => rfl); (case hg => rfl); (case hr => first | (go_simp; done) | (go_simp; rfl)); (case hp => exact (Reps.c4 (show Kd.M k26 _ _ _ (⟨a1_0, a1_1, a1_2, a1_3⟩ : S26) [.int .i64 a1_0, .int .i64 a1_1, .int .i64 a1_2, .int .i64 a1_3] from (k26_mkM _ _ _ (⟨a1_0, a1_1, a1_2, a1_3⟩ : S26) )) (Reps.none _ _)))
           intro v327 w11 ho12 hb hg_ hnew_
           clear hg_ hnew_
           (first | rw [← Ny326.out] at ho12 | (simp only [Int.reduceToNat] at ho12; rw [← Ny326.out] at ho12))
           have HO328 := Aside0.mk (Kd.R_lower (Kd.R_newB ho12 (pk BK321)) (below_size bw))
           replace BK320 := nk BK320 hb
           replace BK321 := nk BK321 hb
           replace BK322 := nk BK322 hb
           replace HB := bs hb
           clear hb ho12
           refine hK.out _ _ ⟨ec BK320, ec BK320, ec BK321, ec BK321, ec BK321, ec BK321⟩ (fun hHeld => ?_)
           clear hK K
           refine nm (some 13) ?_
           exact nx (hJ6 (v327) _ ⟨hHeld, (by (with_reducible repeat (first | apply Kd.R_alloc | apply Kd.R_drewN | apply Kd.R_drew)); exact Kd.R_mono HO328.out (fun _ hk => hk.2)), (pk BK320), (pk BK321), (pk BK322), bw⟩)
          ·skip
           refine box_step ?hg (N := 6) ?hd (cs := #[.int .i64 0, .slice none 0 0]) (t := 24) ?hr ?_; (case hd => rfl); (case hg => rfl); (case hr => first | (go_simp; done) | (go_simp; rfl))
           intro gb332 hg w11 hbox hb
           have BK332 := Aside0.mk (hbox)
           have GW332 := gs hg
           have GE332 := gs hg
           replace HB := bs hb
           have ⟨NB320_332, NB332_320⟩ := nn BK320 hg
           replace BK320 := nk BK320 hb
           have ⟨NB321_332, NB332_321⟩ := nn BK321 hg
           replace BK321 := nk BK321 hb
           have ⟨NB322_332, NB332_322⟩ := nn BK322 hg
           replace BK322 := nk BK322 hb
           clear hb hbox hg
           refine hK.out _ _ ⟨ec BK320, ec BK320, ec BK321, ec BK321, ec BK321, ec BK321⟩ (fun hHeld => ?_)
           clear hK K
           refine nm (some 6) ?_
           exact nx (hJ9 (gb332) _ ⟨hHeld, (pk BK320), (pk BK321), (pk BK322), (pk BK332), GW332.out, GE332.out, NB320_332.out, NB332_320.out, NB321_332.out, NB332_321.out, NB322_332.out, NB332_322.out, bw⟩)
         ·skip
          rintro gb332 w12 ⟨hS_, h0_, h1_, h2_, h3_, h4_, h5_, h6_, h7_, h8_, h9_, h10_, h11_, h12_⟩
          have n0_ : Aside0 (w12.heap[gb320]? = some (.cells #[.int .i64 a0_0, .slice A0_1 l0_1.length c0_1] 24 (0, 0))) := ⟨h0_⟩
          have n1_ : Aside0 (w12.heap[gb321]? = some (.cells #[.int .i64 a1_0, .int .i64 a1_1, .int .i64 a1_2, .int .i64 a1_3] 26 (0, 0))) := ⟨h1_⟩
          have n2_ : Aside0 (w12.heap[gb322]? = some (.cells #[.int .i64 0, .slice none 0 0] 24 (0, 0))) := ⟨h2_⟩
          have n3_ : Aside0 (w12.heap[gb332]? = some (.cells #[.int .i64 0, .slice none 0 0] 24 (0, 0))) := ⟨h3_⟩
          have n4_ : Aside0 (w.heap.size ≤ gb332) := ⟨h4_⟩
          have n5_ : Aside0 (w.heap.size ≤ gb332) := ⟨h5_⟩
          have n6_ : Aside0 (gb320 ≠ gb332) := ⟨h6_⟩
          have n7_ : Aside0 (gb332 ≠ gb320) := ⟨h7_⟩
          have n8_ : Aside0 (gb321 ≠ gb332) := ⟨h8_⟩
          have n9_ : Aside0 (gb332 ≠ gb321) := ⟨h9_⟩
          have n10_ : Aside0 (gb322 ≠ gb332) := ⟨h10_⟩
          have n11_ : Aside0 (gb332 ≠ gb322) := ⟨h11_⟩
          have n12_ : Aside0 (Below w.heap.size w w12) := ⟨h12_⟩
          clear BK320
          clear BK321
          clear BK322
          clear HB
          clear h0_ h1_ h2_ h3_ h4_ h5_ h6_ h7_ h8_ h9_ h10_ h11_ h12_
          have BK320 := n0_
          have BK321 := n1_
          have BK322 := n2_
          have BK332 := n3_
          have GW332 := n4_
          have GE332 := n5_
          have NB320_332 := n6_
          have NB332_320 := n7_
          have NB321_332 := n8_
          have NB332_321 := n9_
          have NB322_332 := n10_
          have NB332_322 := n11_
          have HB := n12_
          clear n0_ n1_ n2_ n3_ n4_ n5_ n6_ n7_ n8_ n9_ n10_ n11_ n12_
          have hHeld : w12.cell? ⟨gb320, 0, none⟩ = some (.int .i64 a0_0) ∧ w12.cell? ⟨gb320, 1, none⟩ = some (.slice A0_1 l0_1.length c0_1) ∧ w12.cell? ⟨gb321, 0, none⟩ = some (.int .i64 a1_0) ∧ w12.cell? ⟨gb321, 1, none⟩ = some (.int .i64 a1_1) ∧ w12.cell? ⟨gb321, 2, none⟩ = some (.int .i64 a1_2) ∧ w12.cell? ⟨gb321, 3, none⟩ = some (.int .i64 a1_3) := hS_
          refine norm_ (a' := ?_) ?_ ?_
          rotate_left
          ·simp only [putAll, Act.put, List.setIfInBounds_toArray, List.set_cons_zero, List.set_cons_succ]
           rfl
          refine two_ (i := 4) (j := 6) (Ni := some 11) (Nj := some 13) (tb 11 575) (tb 11 623) rfl rfl rfl rfl (two_of HT_.out (by kernel_rfl)) (by decide) (by decide) (fun K hK => ?_) (fun K hK => ?_)
          ·skip
           refine go1 Tryz.func44 #[.slice A0_1 l0_1.length c0_1] ?_
           with_reducible refine (impl_Clue.calls _ _ l0_1 t323 _ ?side1 ?side2 A3.out).mono ?_
           (case side1 => exact cb HR0_1)
           (case side2 => exact HC0_1.out)
           rintro e w13 ⟨v324, rfl, ho0, hb⟩
           refine ⟨_, rfl, ?_⟩
           have HO325 := Aside0.mk (Kd.R_lower (Kd.R_newB ho0 (pk BK321)) (below_size bw))
           replace BK320 := nk BK320 hb
           replace BK321 := nk BK321 hb
           replace BK322 := nk BK322 hb
           replace BK332 := nk BK332 hb
           replace HB := bs hb
           (try clear hb)
           (try clear ho0)
           refine hK.out _ _ ⟨ec BK320, ec BK320, ec BK321, ec BK321, ec BK321, ec BK321⟩ (fun hHeld => ?_)
           clear hK K
           refine nm (some 11) ?_
           exact nx (hJ4_9 (v324, gb332) _ ⟨hHeld, (by (with_reducible repeat (first | apply Kd.R_alloc | apply Kd.R_drewN | apply Kd.R_drew)); exact Kd.R_mono HO325.out (fun _ hk => hk.2)), (pk BK320), (pk BK321), (pk BK322), (pk BK332), GW332.out, GE332.out, NB320_332.out, NB332_320.out, NB321_332.out, NB332_321.out, NB322_332.out, NB332_322.out, bw⟩)
          ·skip
           refine Kd.R_lit_step k26 _ 26 ?hg (N := 13) ?hd (xs := ([(⟨a1_0, a1_1, a1_2, a1_3⟩ : S26)] : List (S26))) (inner := [.int .i64 a1_0, .int .i64 a1_1, .int .i64 a1_2, .int .i64 a1_3]) (ok := fun _ => True) (okp := fun _ => True) ?hr ?hp (fun _ hk => hk) trivial (Below.refl _ _) (Nat.le_refl _) (by simp) ?_; (case hd => rfl); (case hg => rfl); (case hr => first | (go_simp; done) | (go_simp; rfl)); (case hp => exact (Reps.c4 (show Kd.M k26 _ _ _ (⟨a1_0, a1_1, a1_2, a1_3⟩ : S26) [.int .i64 a1_0, .int .i64 a1_1, .int .i64 a1_2, .int .i64 a1_3] from (k26_mkM _ _ _ (⟨a1_0, a1_1, a1_2, a1_3⟩ : S26) )) (Reps.none _ _)))
           intro v327 w13 ho14 hb hg_ hnew_
           clear hg_ hnew_
           (first | rw [← Ny326.out] at ho14 | (simp only [Int.reduceToNat] at ho14; rw [← Ny326.out] at ho14))
           have HO328 := Aside0.mk (Kd.R_lower (Kd.R_newB ho14 (pk BK321)) (below_size bw))
           replace BK320 := nk BK320 hb
           replace BK321 := nk BK321 hb
           replace BK322 := nk BK322 hb
           replace BK332 := nk BK332 hb
           replace HB := bs hb
           clear hb ho14
           refine hK.out _ _ ⟨ec BK320, ec BK320, ec BK321, ec BK321, ec BK321, ec BK321⟩ (fun hHeld => ?_)
           clear hK K
           refine nm (some 13) ?_
           exact nx (hJ6_9 (v327, gb332) _ ⟨hHeld, (by (with_reducible repeat (first | apply Kd.R_alloc | apply Kd.R_drewN | apply Kd.R_drew)); exact Kd.R_mono HO328.out (fun _ hk => hk.2)), (pk BK320), (pk BK321), (pk BK322), (pk BK332), GW332.out, GE332.out, NB320_332.out, NB332_320.out, NB321_332.out, NB332_321.out, NB322_332.out, NB332_322.out, bw⟩)
        ·skip
         rintro v327 w13 ⟨hS_, h0_, h1_, h2_, h3_, h4_⟩
         have n0_ : Aside0 (Kd.R k26 26 w13 w.heap.size (fun k_ => k_ ≠ gb321) v327 y326) := ⟨h0_⟩
         have n1_ : Aside0 (w13.heap[gb320]? = some (.cells #[.int .i64 a0_0, .slice A0_1 l0_1.length c0_1] 24 (0, 0))) := ⟨h1_⟩
         have n2_ : Aside0 (w13.heap[gb321]? = some (.cells #[.int .i64 a1_0, .int .i64 a1_1, .int .i64 a1_2, .int .i64 a1_3] 26 (0, 0))) := ⟨h2_⟩
         have n3_ : Aside0 (w13.heap[gb322]? = some (.cells #[.int .i64 0, .slice none 0 0] 24 (0, 0))) := ⟨h3_⟩
         have n4_ : Aside0 (Below w.heap.size w w13) := ⟨h4_⟩
         clear BK320
         clear BK321
         clear BK322
         clear HB
         clear h0_ h1_ h2_ h3_ h4_
         have HO328 := n0_
         have BK320 := n1_
         have BK321 := n2_
         have BK322 := n3_
         have HB := n4_
         clear n0_ n1_ n2_ n3_ n4_
         have hHeld : w13.cell? ⟨gb320, 0, none⟩ = some (.int .i64 a0_0) ∧ w13.cell? ⟨gb320, 1, none⟩ = some (.slice A0_1 l0_1.length c0_1) ∧ w13.cell? ⟨gb321, 0, none⟩ = some (.int .i64 a1_0) ∧ w13.cell? ⟨gb321, 1, none⟩ = some (.int .i64 a1_1) ∧ w13.cell? ⟨gb321, 2, none⟩ = some (.int .i64 a1_2) ∧ w13.cell? ⟨gb321, 3, none⟩ = some (.int .i64 a1_3) := hS_
         refine norm_ (a' := ?_) ?_ ?_
         rotate_left
         ·simp only [putAll, Act.put, List.setIfInBounds_toArray, List.set_cons_zero, List.set_cons_succ]
          rfl
         refine two_ (i := 4) (j := 9) (Ni := some 11) (Nj := some 6) (tb 11 127) (tb 11 623) rfl rfl rfl rfl (two_of HT_.out (by kernel_rfl)) (by decide) (by decide) (fun K hK => ?_) (fun K hK => ?_)
         ·skip
          refine go1 Tryz.func44 #[.slice A0_1 l0_1.length c0_1] ?_
          with_reducible refine (impl_Clue.calls _ _ l0_1 t323 _ ?side1 ?side2 A3.out).mono ?_
          (case side1 => exact cb HR0_1)
          (case side2 => exact HC0_1.out)
          rintro e w14 ⟨v324, rfl, ho0, hb⟩
          refine ⟨_, rfl, ?_⟩
          have HO325 := Aside0.mk (Kd.R_lower (Kd.R_newB (Kd.R_new' ho0 (Kd.R_lt (pr HO328))) (pk BK321)) (below_size bw))
          replace HO328 := re HO328 ho0 hb
          replace BK320 := nk BK320 hb
          replace BK321 := nk BK321 hb
          replace BK322 := nk BK322 hb
          replace HB := bs hb
          (try clear hb)
          (try clear ho0)
          refine hK.out _ _ ⟨ec BK320, ec BK320, ec BK321, ec BK321, ec BK321, ec BK321⟩ (fun hHeld => ?_)
          clear hK K
          refine nm (some 11) ?_
          exact nx (hJ4_6 (v324, v327) _ ⟨hHeld, (by (with_reducible repeat (first | apply Kd.R_alloc | apply Kd.R_drewN | apply Kd.R_drew)); exact Kd.R_mono HO325.out (fun _ hk => ⟨hk.1.2, hk.2⟩)), (by (with_reducible repeat (first | apply Kd.R_alloc | apply Kd.R_drewN | apply Kd.R_drew)); exact Kd.R_mono HO328.out (fun _ hk => ⟨hk.2, hk.1⟩)), (pk BK320), (pk BK321), (pk BK322), bw⟩)
         ·skip
          refine box_step ?hg (N := 6) ?hd (cs := #[.int .i64 0, .slice none 0 0]) (t := 24) ?hr ?_; (case hd => rfl); (case hg => rfl); (case hr => first | (go_simp; done) | (go_simp; rfl))
          intro gb332 hg w14 hbox hb
          replace HO328 := rl HO328 hb
          have BK332 := Aside0.mk (hbox)
          have GW332 := gs hg
          have GE332 := gs hg
          replace HB := bs hb
          have ⟨NB320_332, NB332_320⟩ := nn BK320 hg
          replace BK320 := nk BK320 hb
          have ⟨NB321_332, NB332_321⟩ := nn BK321 hg
          replace BK321 := nk BK321 hb
          have ⟨NB322_332, NB332_322⟩ := nn BK322 hg
          replace BK322 := nk BK322 hb
          clear hb hbox hg
          refine hK.out _ _ ⟨ec BK320, ec BK320, ec BK321, ec BK321, ec BK321, ec BK321⟩ (fun hHeld => ?_)
          clear hK K
          refine nm (some 6) ?_
          exact nx (hJ6_9 (v327, gb332) _ ⟨hHeld, (pr HO328), (pk BK320), (pk BK321), (pk BK322), (pk BK332), GW332.out, GE332.out, NB320_332.out, NB332_320.out, NB321_332.out, NB332_321.out, NB322_332.out, NB332_322.out, bw⟩)
       ·skip
        rintro v324 w12 ⟨hS_, h0_, h1_, h2_, h3_, h4_⟩
        have n0_ : Aside0 (Kd.R k26 26 w12 w.heap.size (fun k_ => k_ ≠ gb321) v324 t323) := ⟨h0_⟩
        have n1_ : Aside0 (w12.heap[gb320]? = some (.cells #[.int .i64 a0_0, .slice A0_1 l0_1.length c0_1] 24 (0, 0))) := ⟨h1_⟩
        have n2_ : Aside0 (w12.heap[gb321]? = some (.cells #[.int .i64 a1_0, .int .i64 a1_1, .int .i64 a1_2, .int .i64 a1_3] 26 (0, 0))) := ⟨h2_⟩
        have n3_ : Aside0 (w12.heap[gb322]? = some (.cells #[.int .i64 0, .slice none 0 0] 24 (0, 0))) := ⟨h3_⟩
        have n4_ : Aside0 (Below w.heap.size w w12) := ⟨h4_⟩
        clear BK320
        clear BK321
        clear BK322
        clear HB
        clear h0_ h1_ h2_ h3_ h4_
        have HO325 := n0_
        have BK320 := n1_
        have BK321 := n2_
        have BK322 := n3_
        have HB := n4_
        clear n0_ n1_ n2_ n3_ n4_
        have hHeld : w12.cell? ⟨gb320, 0, none⟩ = some (.int .i64 a0_0) ∧ w12.cell? ⟨gb320, 1, none⟩ = some (.slice A0_1 l0_1.length c0_1) ∧ w12.cell? ⟨gb321, 0, none⟩ = some (.int .i64 a1_0) ∧ w12.cell? ⟨gb321, 1, none⟩ = some (.int .i64 a1_1) ∧ w12.cell? ⟨gb321, 2, none⟩ = some (.int .i64 a1_2) ∧ w12.cell? ⟨gb321, 3, none⟩ = some (.int .i64 a1_3) := hS_
        refine norm_ (a' := ?_) ?_ ?_
        rotate_left
        ·simp only [putAll, Act.put, List.setIfInBounds_toArray, List.set_cons_zero, List.set_cons_succ]
         rfl
        refine two_ (i := 6) (j := 9) (Ni := some 13) (Nj := some 6) (tb 11 127) (tb 11 575) rfl rfl rfl rfl (two_of HT_.out (by kernel_rfl)) (by decide) (by decide) (fun K hK => ?_) (fun K hK => ?_)
        ·skip
         refine Kd.R_lit_step k26 _ 26 ?hg (N := 13) ?hd (xs := ([(⟨a1_0, a1_1, a1_2, a1_3⟩ : S26)] : List (S26))) (inner := [.int .i64 a1_0, .int .i64 a1_1, .int .i64 a1_2, .int .i64 a1_3]) (ok := fun _ => True) (okp := fun _ => True) ?hr ?hp (fun _ hk => hk) trivial (Below.refl _ _) (Nat.le_refl _) (by simp) ?_; (case hd => rfl); (case hg => rfl); (case hr => first | (go_simp; done) | (go_simp; rfl)); (case hp => exact (Reps.c4 (show Kd.M k26 _ _ _ (⟨a1_0, a1_1, a1_2, a1_3⟩ : S26) [.int .i64 a1_0, .int .i64 a1_1, .int .i64 a1_2, .int .i64 a1_3] from (k26_mkM _ _ _ (⟨a1_0, a1_1, a1_2, a1_3⟩ : S26) )) (Reps.none _ _)))
         intro v327 w13 ho14 hb hg_ hnew_
         clear hg_ hnew_
         (first | rw [← Ny326.out] at ho14 | (simp only [Int.reduceToNat] at ho14; rw [← Ny326.out] at ho14))
         have HO328 := Aside0.mk (Kd.R_lower (Kd.R_newB (Kd.R_new' ho14 (Kd.R_lt (pr HO325))) (pk BK321)) (below_size bw))
         replace HO325 := re HO325 ho14 hb
         replace BK320 := nk BK320 hb
         replace BK321 := nk BK321 hb
         replace BK322 := nk BK322 hb
         replace HB := bs hb
         clear hb ho14
         refine hK.out _ _ ⟨ec BK320, ec BK320, ec BK321, ec BK321, ec BK321, ec BK321⟩ (fun hHeld => ?_)
         clear hK K
         refine nm (some 13) ?_
         exact nx (hJ4_6 (v324, v327) _ ⟨hHeld, (by (with_reducible repeat (first | apply Kd.R_alloc | apply Kd.R_drewN | apply Kd.R_drew)); exact Kd.R_mono HO325.out (fun _ hk => ⟨hk.2, hk.1⟩)), (by (with_reducible repeat (first | apply Kd.R_alloc | apply Kd.R_drewN | apply Kd.R_drew)); exact Kd.R_mono HO328.out (fun _ hk => ⟨hk.1.2, hk.2⟩)), (pk BK320), (pk BK321), (pk BK322), bw⟩)
        ·skip
         refine box_step ?hg (N := 6) ?hd (cs := #[.int .i64 0, .slice none 0 0]) (t := 24) ?hr ?_; (case hd => rfl); (case hg => rfl); (case hr => first | (go_simp; done) | (go_simp; rfl))
         intro gb332 hg w13 hbox hb
         replace HO325 := rl HO325 hb
         have BK332 := Aside0.mk (hbox)
         have GW332 := gs hg
         have GE332 := gs hg
         replace HB := bs hb
         have ⟨NB320_332, NB332_320⟩ := nn BK320 hg
         replace BK320 := nk BK320 hb
         have ⟨NB321_332, NB332_321⟩ := nn BK321 hg
         replace BK321 := nk BK321 hb
         have ⟨NB322_332, NB332_322⟩ := nn BK322 hg
         replace BK322 := nk BK322 hb
         clear hb hbox hg
         refine hK.out _ _ ⟨ec BK320, ec BK320, ec BK321, ec BK321, ec BK321, ec BK321⟩ (fun hHeld => ?_)
         clear hK K
         refine nm (some 6) ?_
         exact nx (hJ4_9 (v324, gb332) _ ⟨hHeld, (pr HO325), (pk BK320), (pk BK321), (pk BK322), (pk BK332), GW332.out, GE332.out, NB320_332.out, NB332_320.out, NB321_332.out, NB332_321.out, NB322_332.out, NB332_322.out, bw⟩)
      ·skip
       rintro ⟨v327, gb332⟩ w14 ⟨hS_, h0_, h1_, h2_, h3_, h4_, h5_, h6_, h7_, h8_, h9_, h10_, h11_, h12_, h13_⟩
       have n0_ : Aside0 (Kd.R k26 26 w14 w.heap.size (fun k_ => k_ ≠ gb321) v327 y326) := ⟨h0_⟩
       have n1_ : Aside0 (w14.heap[gb320]? = some (.cells #[.int .i64 a0_0, .slice A0_1 l0_1.length c0_1] 24 (0, 0))) := ⟨h1_⟩
       have n2_ : Aside0 (w14.heap[gb321]? = some (.cells #[.int .i64 a1_0, .int .i64 a1_1, .int .i64 a1_2, .int .i64 a1_3] 26 (0, 0))) := ⟨h2_⟩
       have n3_ : Aside0 (w14.heap[gb322]? = some (.cells #[.int .i64 0, .slice none 0 0] 24 (0, 0))) := ⟨h3_⟩
       have n4_ : Aside0 (w14.heap[gb332]? = some (.cells #[.int .i64 0, .slice none 0 0] 24 (0, 0))) := ⟨h4_⟩
       have n5_ : Aside0 (w.heap.size ≤ gb332) := ⟨h5_⟩
       have n6_ : Aside0 (w.heap.size ≤ gb332) := ⟨h6_⟩
       have n7_ : Aside0 (gb320 ≠ gb332) := ⟨h7_⟩
       have n8_ : Aside0 (gb332 ≠ gb320) := ⟨h8_⟩
       have n9_ : Aside0 (gb321 ≠ gb332) := ⟨h9_⟩
       have n10_ : Aside0 (gb332 ≠ gb321) := ⟨h10_⟩
       have n11_ : Aside0 (gb322 ≠ gb332) := ⟨h11_⟩
       have n12_ : Aside0 (gb332 ≠ gb322) := ⟨h12_⟩
       have n13_ : Aside0 (Below w.heap.size w w14) := ⟨h13_⟩
       clear BK320
       clear BK321
       clear BK322
       clear HB
       clear h0_ h1_ h2_ h3_ h4_ h5_ h6_ h7_ h8_ h9_ h10_ h11_ h12_ h13_
       have HO328 := n0_
       have BK320 := n1_
       have BK321 := n2_
       have BK322 := n3_
       have BK332 := n4_
       have GW332 := n5_
       have GE332 := n6_
       have NB320_332 := n7_
       have NB332_320 := n8_
       have NB321_332 := n9_
       have NB332_321 := n10_
       have NB322_332 := n11_
       have NB332_322 := n12_
       have HB := n13_
       clear n0_ n1_ n2_ n3_ n4_ n5_ n6_ n7_ n8_ n9_ n10_ n11_ n12_ n13_
       have hHeld : w14.cell? ⟨gb320, 0, none⟩ = some (.int .i64 a0_0) ∧ w14.cell? ⟨gb320, 1, none⟩ = some (.slice A0_1 l0_1.length c0_1) ∧ w14.cell? ⟨gb321, 0, none⟩ = some (.int .i64 a1_0) ∧ w14.cell? ⟨gb321, 1, none⟩ = some (.int .i64 a1_1) ∧ w14.cell? ⟨gb321, 2, none⟩ = some (.int .i64 a1_2) ∧ w14.cell? ⟨gb321, 3, none⟩ = some (.int .i64 a1_3) := hS_
       refine norm_ (a' := ?_) ?_ ?_
       rotate_left
       ·simp only [putAll, Act.put, List.setIfInBounds_toArray, List.set_cons_zero, List.set_cons_succ]
        rfl
       refine one_ (i := 4) (N := some 11) (tb 11 639) rfl rfl (one_of HT_.out (by kernel_rfl)) (by decide) (fun K hK => ?_)
       refine go1 Tryz.func44 #[.slice A0_1 l0_1.length c0_1] ?_
       with_reducible refine (impl_Clue.calls _ _ l0_1 t323 _ ?side1 ?side2 A3.out).mono ?_
       (case side1 => exact cb HR0_1)
       (case side2 => exact HC0_1.out)
       rintro e w15 ⟨v324, rfl, ho0, hb⟩
       refine ⟨_, rfl, ?_⟩
       have HO325 := Aside0.mk (Kd.R_lower (Kd.R_newB (Kd.R_new' ho0 (Kd.R_lt (pr HO328))) (pk BK321)) (below_size bw))
       replace HO328 := re HO328 ho0 hb
       replace BK320 := nk BK320 hb
       replace BK321 := nk BK321 hb
       replace BK322 := nk BK322 hb
       replace BK332 := nk BK332 hb
       replace HB := bs hb
       (try clear hb)
       (try clear ho0)
       refine hK.out _ _ ⟨ec BK320, ec BK320, ec BK321, ec BK321, ec BK321, ec BK321⟩ (fun hHeld => ?_)
       clear hK K
       refine nm (some 11) ?_
       exact nx (hJ4_6_9 (v324, v327, gb332) _ ⟨hHeld, (by (with_reducible repeat (first | apply Kd.R_alloc | apply Kd.R_drewN | apply Kd.R_drew)); exact Kd.R_mono HO325.out (fun _ hk => ⟨hk.1.2, hk.2⟩)), (by (with_reducible repeat (first | apply Kd.R_alloc | apply Kd.R_drewN | apply Kd.R_drew)); exact Kd.R_mono HO328.out (fun _ hk => ⟨hk.2, hk.1⟩)), (pk BK320), (pk BK321), (pk BK322), (pk BK332), GW332.out, GE332.out, NB320_332.out, NB332_320.out, NB321_332.out, NB332_321.out, NB322_332.out, NB332_322.out, bw⟩)
     ·skip
      rintro ⟨v324, gb332⟩ w13 ⟨hS_, h0_, h1_, h2_, h3_, h4_, h5_, h6_, h7_, h8_, h9_, h10_, h11_, h12_, h13_⟩
      have n0_ : Aside0 (Kd.R k26 26 w13 w.heap.size (fun k_ => k_ ≠ gb321) v324 t323) := ⟨h0_⟩
      have n1_ : Aside0 (w13.heap[gb320]? = some (.cells #[.int .i64 a0_0, .slice A0_1 l0_1.length c0_1] 24 (0, 0))) := ⟨h1_⟩
      have n2_ : Aside0 (w13.heap[gb321]? = some (.cells #[.int .i64 a1_0, .int .i64 a1_1, .int .i64 a1_2, .int .i64 a1_3] 26 (0, 0))) := ⟨h2_⟩
      have n3_ : Aside0 (w13.heap[gb322]? = some (.cells #[.int .i64 0, .slice none 0 0] 24 (0, 0))) := ⟨h3_⟩
      have n4_ : Aside0 (w13.heap[gb332]? = some (.cells #[.int .i64 0, .slice none 0 0] 24 (0, 0))) := ⟨h4_⟩
      have n5_ : Aside0 (w.heap.size ≤ gb332) := ⟨h5_⟩
      have n6_ : Aside0 (w.heap.size ≤ gb332) := ⟨h6_⟩
      have n7_ : Aside0 (gb320 ≠ gb332) := ⟨h7_⟩
      have n8_ : Aside0 (gb332 ≠ gb320) := ⟨h8_⟩
      have n9_ : Aside0 (gb321 ≠ gb332) := ⟨h9_⟩
      have n10_ : Aside0 (gb332 ≠ gb321) := ⟨h10_⟩
      have n11_ : Aside0 (gb322 ≠ gb332) := ⟨h11_⟩
      have n12_ : Aside0 (gb332 ≠ gb322) := ⟨h12_⟩
      have n13_ : Aside0 (Below w.heap.size w w13) := ⟨h13_⟩
      clear BK320
      clear BK321
      clear BK322
      clear HB
      clear h0_ h1_ h2_ h3_ h4_ h5_ h6_ h7_ h8_ h9_ h10_ h11_ h12_ h13_
      have HO325 := n0_
      have BK320 := n1_
      have BK321 := n2_
      have BK322 := n3_
      have BK332 := n4_
      have GW332 := n5_
      have GE332 := n6_
      have NB320_332 := n7_
      have NB332_320 := n8_
      have NB321_332 := n9_
      have NB332_321 := n10_
      have NB322_332 := n11_
      have NB332_322 := n12_
      have HB := n13_
      clear n0_ n1_ n2_ n3_ n4_ n5_ n6_ n7_ n8_ n9_ n10_ n11_ n12_ n13_
      have hHeld : w13.cell? ⟨gb320, 0, none⟩ = some (.int .i64 a0_0) ∧ w13.cell? ⟨gb320, 1, none⟩ = some (.slice A0_1 l0_1.length c0_1) ∧ w13.cell? ⟨gb321, 0, none⟩ = some (.int .i64 a1_0) ∧ w13.cell? ⟨gb321, 1, none⟩ = some (.int .i64 a1_1) ∧ w13.cell? ⟨gb321, 2, none⟩ = some (.int .i64 a1_2) ∧ w13.cell? ⟨gb321, 3, none⟩ = some (.int .i64 a1_3) := hS_
      refine norm_ (a' := ?_) ?_ ?_
      rotate_left
      ·simp only [putAll, Act.put, List.setIfInBounds_toArray, List.set_cons_zero, List.set_cons_succ]
       rfl
      refine one_ (i := 6) (N := some 13) (tb 11 639) rfl rfl (one_of HT_.out (by kernel_rfl)) (by decide) (fun K hK => ?_)
      refine Kd.R_lit_step k26 _ 26 ?hg (N := 13) ?hd (xs := ([(⟨a1_0, a1_1, a1_2, a1_3⟩ : S26)] : List (S26))) (inner := [.int .i64 a1_0, .int .i64 a1_1, .int .i64 a1_2, .int .i64 a1_3]) (ok := fun _ => True) (okp := fun _ => True) ?hr ?hp (fun _ hk => hk) trivial (Below.refl _ _) (Nat.le_refl _) (by simp) ?_; (case hd => rfl); (case hg => rfl); (case hr => first | (go_simp; done) | (go_simp; rfl)); (case hp => exact (Reps.c4 (show Kd.M k26 _ _ _ (⟨a1_0, a1_1, a1_2, a1_3⟩ : S26) [.int .i64 a1_0, .int .i64 a1_1, .int .i64 a1_2, .int .i64 a1_3] from (k26_mkM _ _ _ (⟨a1_0, a1_1, a1_2, a1_3⟩ : S26) )) (Reps.none _ _)))
      intro v327 w14 ho15 hb hg_ hnew_
      clear hg_ hnew_
      (first | rw [← Ny326.out] at ho15 | (simp only [Int.reduceToNat] at ho15; rw [← Ny326.out] at ho15))
      have HO328 := Aside0.mk (Kd.R_lower (Kd.R_newB (Kd.R_new' ho15 (Kd.R_lt (pr HO325))) (pk BK321)) (below_size bw))
      replace HO325 := re HO325 ho15 hb
      replace BK320 := nk BK320 hb
      replace BK321 := nk BK321 hb
      replace BK322 := nk BK322 hb
      replace BK332 := nk BK332 hb
      replace HB := bs hb
      clear hb ho15
      refine hK.out _ _ ⟨ec BK320, ec BK320, ec BK321, ec BK321, ec BK321, ec BK321⟩ (fun hHeld => ?_)
      clear hK K
      refine nm (some 13) ?_
      exact nx (hJ4_6_9 (v324, v327, gb332) _ ⟨hHeld, (by (with_reducible repeat (first | apply Kd.R_alloc | apply Kd.R_drewN | apply Kd.R_drew)); exact Kd.R_mono HO325.out (fun _ hk => ⟨hk.2, hk.1⟩)), (by (with_reducible repeat (first | apply Kd.R_alloc | apply Kd.R_drewN | apply Kd.R_drew)); exact Kd.R_mono HO328.out (fun _ hk => ⟨hk.1.2, hk.2⟩)), (pk BK320), (pk BK321), (pk BK322), (pk BK332), GW332.out, GE332.out, NB320_332.out, NB332_320.out, NB321_332.out, NB332_321.out, NB322_332.out, NB332_322.out, bw⟩)
    ·skip
     rintro ⟨v324, v327⟩ w14 ⟨hS_, h0_, h1_, h2_, h3_, h4_, h5_⟩
     have n0_ : Aside0 (Kd.R k26 26 w14 w.heap.size (fun k_ => some k_ ≠ (v327 : Value).ownBlock ∧ k_ ≠ gb321) v324 t323) := ⟨h0_⟩
     have n1_ : Aside0 (Kd.R k26 26 w14 w.heap.size (fun k_ => some k_ ≠ (v324 : Value).ownBlock ∧ k_ ≠ gb321) v327 y326) := ⟨h1_⟩
     have n2_ : Aside0 (w14.heap[gb320]? = some (.cells #[.int .i64 a0_0, .slice A0_1 l0_1.length c0_1] 24 (0, 0))) := ⟨h2_⟩
     have n3_ : Aside0 (w14.heap[gb321]? = some (.cells #[.int .i64 a1_0, .int .i64 a1_1, .int .i64 a1_2, .int .i64 a1_3] 26 (0, 0))) := ⟨h3_⟩
     have n4_ : Aside0 (w14.heap[gb322]? = some (.cells #[.int .i64 0, .slice none 0 0] 24 (0, 0))) := ⟨h4_⟩
     have n5_ : Aside0 (Below w.heap.size w w14) := ⟨h5_⟩
     clear BK320
     clear BK321
     clear BK322
     clear HB
     clear h0_ h1_ h2_ h3_ h4_ h5_
     have HO325 := n0_
     have HO328 := n1_
     have BK320 := n2_
     have BK321 := n3_
     have BK322 := n4_
     have HB := n5_
     clear n0_ n1_ n2_ n3_ n4_ n5_
     have hHeld : w14.cell? ⟨gb320, 0, none⟩ = some (.int .i64 a0_0) ∧ w14.cell? ⟨gb320, 1, none⟩ = some (.slice A0_1 l0_1.length c0_1) ∧ w14.cell? ⟨gb321, 0, none⟩ = some (.int .i64 a1_0) ∧ w14.cell? ⟨gb321, 1, none⟩ = some (.int .i64 a1_1) ∧ w14.cell? ⟨gb321, 2, none⟩ = some (.int .i64 a1_2) ∧ w14.cell? ⟨gb321, 3, none⟩ = some (.int .i64 a1_3) := hS_
     obtain ⟨Ao16, co16, eo16⟩ := Kd.R_slice HO328.out
     (first | subst eo16 | (injection eo16 with f1_ f2_ f3_; have f4_ := f1_.symm; have f5_ := f3_.symm; clear f1_ f2_ f3_; subst f4_; subst f5_))
     refine norm_ (a' := ?_) ?_ ?_
     rotate_left
     ·simp only [putAll, Act.put, List.setIfInBounds_toArray, List.set_cons_zero, List.set_cons_succ]
      rfl
     refine two_ (i := 7) (j := 9) (Ni := some 14) (Nj := some 6) (tb 11 255) (tb 11 639) rfl rfl rfl rfl (two_of HT_.out (by kernel_rfl)) (by decide) (by decide) (fun K hK => ?_) (fun K hK => ?_)
     ·skip
      refine Kd.R_append_rows_step k26 (w0 := w) w.heap.size (by rfl) (.tmp 11) (.tmp 13) 22 26 (.agg #[(.int .i64 0), (.int .i64 0), (.int .i64 0), (.int .i64 0)]) 32 rfl Tryz.underlying22 info26 rfl (by decide) (by omega) v324 t323 y326 _ _ _ (fun k_ => some k_ ≠ (.slice Ao16 y326.length co16 : Value).ownBlock ∧ k_ ≠ gb321) (fun _ => False) rfl rfl ?aO ?aR (fun _ _ h => h) (fun _ h => h.elim) ?aF ?aB ?aS ?aL ?_
      (case aR => exact rr HO328)
      (case aB => exact bw)
      (case aF => exact (fun k_ hk => ⟨Kd.fresh' (Kd.R_lt (pr HO328)) k_ hk, Kd.freshB (pk BK321) k_ hk⟩))
      (case aO => exact (pr HO325))
      (case aS => exact (below_size bw))
      (case aL => have := LMc4.out; omega)
      intro v330 w15 ho hb hg hat
      rw [← Ny329.out] at ho
      have n0_ := Aside0.mk (blk_grown (pk BK320) hg (Kd.R_ne HO325.out BK320.out (by decide)))
      have n1_ := Aside0.mk (blk_grown (pk BK321) hg (Kd.R_away HO325.out (fun _ hk => hk.2)))
      have n2_ := Aside0.mk (blk_grown (pk BK322) hg (Kd.R_ne HO325.out BK322.out (by decide)))
      have n3_ := Aside0.mk (Kd.R_after (ok := (fun k_ => k_ ≠ gb321)) (by (with_reducible repeat (first | apply Kd.R_alloc | apply Kd.R_drewN | apply Kd.R_drew)); exact Kd.R_mono HO328.out (fun _ hk => ⟨hk.2, hk.1⟩)) hg hat)
      have n4_ := Aside0.mk (hb)
      have n5_ := Aside0.mk (ho)
      clear BK320
      clear BK321
      clear BK322
      clear HO328
      clear HB
      clear HO325
      have BK320 := n0_
      have BK321 := n1_
      have BK322 := n2_
      have HO328 := n3_
      have HB := n4_
      have HO331 := n5_
      clear n0_ n1_ n2_ n3_ n4_ n5_
      clear ho hb hg hat
      obtain ⟨Ao17, co17, eo17⟩ := Kd.R_slice HO331.out
      (first | subst eo17 | (injection eo17 with f1_ f2_ f3_; have f4_ := f1_.symm; have f5_ := f3_.symm; clear f1_ f2_ f3_; subst f4_; subst f5_))
      refine hK.out _ _ ⟨ec BK320, ec BK320, ec BK321, ec BK321, ec BK321, ec BK321⟩ (fun hHeld => ?_)
      clear hK K
      refine nm (some 14) ?_
      refine pu 8 (some 15) (tb 11 511) ?_
      exact nx (hJ4_6_7 (v324, .slice Ao16 y326.length co16, .slice Ao17 y329.length co17) _ ⟨hHeld, (by (with_reducible repeat (first | apply Kd.R_alloc | apply Kd.R_drewN | apply Kd.R_drew)); exact Kd.R_mono HO328.out (fun _ hk => ⟨hk.2, hk.1⟩)), (pr HO331), (pk BK320), (pk BK321), (pk BK322), bw⟩)
     ·skip
      refine box_step ?hg (N := 6) ?hd (cs := #[.int .i64 0, .slice none 0 0]) (t := 24) ?hr ?_; (case hd => rfl); (case hg => rfl); (case hr => first | (go_simp; done) | (go_simp; rfl))
      intro gb332 hg w15 hbox hb
      replace HO325 := rl HO325 hb
      replace HO328 := rl HO328 hb
      have BK332 := Aside0.mk (hbox)
      have GW332 := gs hg
      have GE332 := gs hg
      replace HB := bs hb
      have ⟨NB320_332, NB332_320⟩ := nn BK320 hg
      replace BK320 := nk BK320 hb
      have ⟨NB321_332, NB332_321⟩ := nn BK321 hg
      replace BK321 := nk BK321 hb
      have ⟨NB322_332, NB332_322⟩ := nn BK322 hg
      replace BK322 := nk BK322 hb
      clear hb hbox hg
      refine hK.out _ _ ⟨ec BK320, ec BK320, ec BK321, ec BK321, ec BK321, ec BK321⟩ (fun hHeld => ?_)
      clear hK K
      refine nm (some 6) ?_
      exact nx (hJ4_6_9 (v324, .slice Ao16 y326.length co16, gb332) _ ⟨hHeld, (pr HO325), (pr HO328), (pk BK320), (pk BK321), (pk BK322), (pk BK332), GW332.out, GE332.out, NB320_332.out, NB332_320.out, NB321_332.out, NB332_321.out, NB322_332.out, NB332_322.out, bw⟩)
   ·skip
    rintro ⟨v324, v327, gb332⟩ w15 ⟨hS_, h0_, h1_, h2_, h3_, h4_, h5_, h6_, h7_, h8_, h9_, h10_, h11_, h12_, h13_, h14_⟩
    have n0_ : Aside0 (Kd.R k26 26 w15 w.heap.size (fun k_ => some k_ ≠ (v327 : Value).ownBlock ∧ k_ ≠ gb321) v324 t323) := ⟨h0_⟩
    have n1_ : Aside0 (Kd.R k26 26 w15 w.heap.size (fun k_ => some k_ ≠ (v324 : Value).ownBlock ∧ k_ ≠ gb321) v327 y326) := ⟨h1_⟩
    have n2_ : Aside0 (w15.heap[gb320]? = some (.cells #[.int .i64 a0_0, .slice A0_1 l0_1.length c0_1] 24 (0, 0))) := ⟨h2_⟩
    have n3_ : Aside0 (w15.heap[gb321]? = some (.cells #[.int .i64 a1_0, .int .i64 a1_1, .int .i64 a1_2, .int .i64 a1_3] 26 (0, 0))) := ⟨h3_⟩
    have n4_ : Aside0 (w15.heap[gb322]? = some (.cells #[.int .i64 0, .slice none 0 0] 24 (0, 0))) := ⟨h4_⟩
    have n5_ : Aside0 (w15.heap[gb332]? = some (.cells #[.int .i64 0, .slice none 0 0] 24 (0, 0))) := ⟨h5_⟩
    have n6_ : Aside0 (w.heap.size ≤ gb332) := ⟨h6_⟩
    have n7_ : Aside0 (w.heap.size ≤ gb332) := ⟨h7_⟩
    have n8_ : Aside0 (gb320 ≠ gb332) := ⟨h8_⟩
    have n9_ : Aside0 (gb332 ≠ gb320) := ⟨h9_⟩
    have n10_ : Aside0 (gb321 ≠ gb332) := ⟨h10_⟩
    have n11_ : Aside0 (gb332 ≠ gb321) := ⟨h11_⟩
    have n12_ : Aside0 (gb322 ≠ gb332) := ⟨h12_⟩
    have n13_ : Aside0 (gb332 ≠ gb322) := ⟨h13_⟩
    have n14_ : Aside0 (Below w.heap.size w w15) := ⟨h14_⟩
    clear BK320
    clear BK321
    clear BK322
    clear HB
    clear h0_ h1_ h2_ h3_ h4_ h5_ h6_ h7_ h8_ h9_ h10_ h11_ h12_ h13_ h14_
    have HO325 := n0_
    have HO328 := n1_
    have BK320 := n2_
    have BK321 := n3_
    have BK322 := n4_
    have BK332 := n5_
    have GW332 := n6_
    have GE332 := n7_
    have NB320_332 := n8_
    have NB332_320 := n9_
    have NB321_332 := n10_
    have NB332_321 := n11_
    have NB322_332 := n12_
    have NB332_322 := n13_
    have HB := n14_
    clear n0_ n1_ n2_ n3_ n4_ n5_ n6_ n7_ n8_ n9_ n10_ n11_ n12_ n13_ n14_
    have hHeld : w15.cell? ⟨gb320, 0, none⟩ = some (.int .i64 a0_0) ∧ w15.cell? ⟨gb320, 1, none⟩ = some (.slice A0_1 l0_1.length c0_1) ∧ w15.cell? ⟨gb321, 0, none⟩ = some (.int .i64 a1_0) ∧ w15.cell? ⟨gb321, 1, none⟩ = some (.int .i64 a1_1) ∧ w15.cell? ⟨gb321, 2, none⟩ = some (.int .i64 a1_2) ∧ w15.cell? ⟨gb321, 3, none⟩ = some (.int .i64 a1_3) := hS_
    obtain ⟨Ao17, co17, eo17⟩ := Kd.R_slice HO328.out
    (first | subst eo17 | (injection eo17 with f1_ f2_ f3_; have f4_ := f1_.symm; have f5_ := f3_.symm; clear f1_ f2_ f3_; subst f4_; subst f5_))
    refine norm_ (a' := ?_) ?_ ?_
    rotate_left
    ·simp only [putAll, Act.put, List.setIfInBounds_toArray, List.set_cons_zero, List.set_cons_succ]
     rfl
    refine one_ (i := 7) (N := some 14) (tb 11 767) rfl rfl (one_of HT_.out (by kernel_rfl)) (by decide) (fun K hK => ?_)
    refine Kd.R_append_rows_step k26 (w0 := w) w.heap.size (by rfl) (.tmp 11) (.tmp 13) 22 26 (.agg #[(.int .i64 0), (.int .i64 0), (.int .i64 0), (.int .i64 0)]) 32 rfl Tryz.underlying22 info26 rfl (by decide) (by omega) v324 t323 y326 _ _ _ (fun k_ => some k_ ≠ (.slice Ao17 y326.length co17 : Value).ownBlock ∧ k_ ≠ gb321) (fun _ => False) rfl rfl ?aO ?aR (fun _ _ h => h) (fun _ h => h.elim) ?aF ?aB ?aS ?aL ?_
    (case aR => exact rr HO328)
    (case aB => exact bw)
    (case aF => exact (fun k_ hk => ⟨Kd.fresh' (Kd.R_lt (pr HO328)) k_ hk, Kd.freshB (pk BK321) k_ hk⟩))
    (case aO => exact (pr HO325))
    (case aS => exact (below_size bw))
    (case aL => have := LMc4.out; omega)
    intro v330 w16 ho hb hg hat
    rw [← Ny329.out] at ho
    have n0_ := Aside0.mk (blk_grown (pk BK320) hg (Kd.R_ne HO325.out BK320.out (by decide)))
    have n1_ := Aside0.mk (blk_grown (pk BK321) hg (Kd.R_away HO325.out (fun _ hk => hk.2)))
    have n2_ := Aside0.mk (blk_grown (pk BK322) hg (Kd.R_ne HO325.out BK322.out (by decide)))
    have n3_ := Aside0.mk (Kd.R_after (ok := (fun k_ => k_ ≠ gb321)) (by (with_reducible repeat (first | apply Kd.R_alloc | apply Kd.R_drewN | apply Kd.R_drew)); exact Kd.R_mono HO328.out (fun _ hk => ⟨hk.2, hk.1⟩)) hg hat)
    have n4_ := Aside0.mk (blk_grown (pk BK332) hg (Kd.R_ne HO325.out BK332.out (by decide)))
    have n5_ := Aside0.mk (hb)
    have n6_ := Aside0.mk (ho)
    clear BK320
    clear BK321
    clear BK322
    clear HO328
    clear BK332
    clear HB
    clear HO325
    have BK320 := n0_
    have BK321 := n1_
    have BK322 := n2_
    have HO328 := n3_
    have BK332 := n4_
    have HB := n5_
    have HO331 := n6_
    clear n0_ n1_ n2_ n3_ n4_ n5_ n6_
    clear ho hb hg hat
    obtain ⟨Ao18, co18, eo18⟩ := Kd.R_slice HO331.out
    (first | subst eo18 | (injection eo18 with f1_ f2_ f3_; have f4_ := f1_.symm; have f5_ := f3_.symm; clear f1_ f2_ f3_; subst f4_; subst f5_))
    refine hK.out _ _ ⟨ec BK320, ec BK320, ec BK321, ec BK321, ec BK321, ec BK321⟩ (fun hHeld => ?_)
    clear hK K
    refine nm (some 14) ?_
    refine pu 8 (some 15) (tb 11 1023) ?_
    exact nx (hJ4_6_7_9 (v324, .slice Ao17 y326.length co17, .slice Ao18 y329.length co18, gb332) _ ⟨hHeld, (by (with_reducible repeat (first | apply Kd.R_alloc | apply Kd.R_drewN | apply Kd.R_drew)); exact Kd.R_mono HO328.out (fun _ hk => ⟨hk.2, hk.1⟩)), (pr HO331), (pk BK320), (pk BK321), (pk BK322), (pk BK332), GW332.out, GE332.out, NB320_332.out, NB332_320.out, NB321_332.out, NB332_321.out, NB322_332.out, NB332_322.out, bw⟩)
  ·skip
   rintro ⟨v324, v327, v330⟩ w17 ⟨hS_, h0_, h1_, h2_, h3_, h4_, h5_⟩
   have n0_ : Aside0 (Kd.R k26 26 w17 w.heap.size (fun k_ => some k_ ≠ (v330 : Value).ownBlock ∧ k_ ≠ gb321) v327 y326) := ⟨h0_⟩
   have n1_ : Aside0 (Kd.R k26 26 w17 w.heap.size (fun k_ => some k_ ≠ (v327 : Value).ownBlock ∧ k_ ≠ gb321) v330 y329) := ⟨h1_⟩
   have n2_ : Aside0 (w17.heap[gb320]? = some (.cells #[.int .i64 a0_0, .slice A0_1 l0_1.length c0_1] 24 (0, 0))) := ⟨h2_⟩
   have n3_ : Aside0 (w17.heap[gb321]? = some (.cells #[.int .i64 a1_0, .int .i64 a1_1, .int .i64 a1_2, .int .i64 a1_3] 26 (0, 0))) := ⟨h3_⟩
   have n4_ : Aside0 (w17.heap[gb322]? = some (.cells #[.int .i64 0, .slice none 0 0] 24 (0, 0))) := ⟨h4_⟩
   have n5_ : Aside0 (Below w.heap.size w w17) := ⟨h5_⟩
   clear BK320
   clear BK321
   clear BK322
   clear HB
   clear h0_ h1_ h2_ h3_ h4_ h5_
   have HO328 := n0_
   have HO331 := n1_
   have BK320 := n2_
   have BK321 := n3_
   have BK322 := n4_
   have HB := n5_
   clear n0_ n1_ n2_ n3_ n4_ n5_
   have hHeld : w17.cell? ⟨gb320, 0, none⟩ = some (.int .i64 a0_0) ∧ w17.cell? ⟨gb320, 1, none⟩ = some (.slice A0_1 l0_1.length c0_1) ∧ w17.cell? ⟨gb321, 0, none⟩ = some (.int .i64 a1_0) ∧ w17.cell? ⟨gb321, 1, none⟩ = some (.int .i64 a1_1) ∧ w17.cell? ⟨gb321, 2, none⟩ = some (.int .i64 a1_2) ∧ w17.cell? ⟨gb321, 3, none⟩ = some (.int .i64 a1_3) := hS_
   obtain ⟨Ao18, co18, eo18⟩ := Kd.R_slice HO331.out
   (first | subst eo18 | (injection eo18 with f1_ f2_ f3_; have f4_ := f1_.symm; have f5_ := f3_.symm; clear f1_ f2_ f3_; subst f4_; subst f5_))
   refine norm_ (a' := ?_) ?_ ?_
   rotate_left
   ·simp only [putAll, Act.put, List.setIfInBounds_toArray, List.set_cons_zero, List.set_cons_succ]
    rfl
   refine one_ (i := 9) (N := some 6) (tb 11 1023) rfl rfl (one_of HT_.out (by kernel_rfl)) (by decide) (fun K hK => ?_)
   refine box_step ?hg (N := 6) ?hd (cs := #[.int .i64 0, .slice none 0 0]) (t := 24) ?hr ?_; (case hd => rfl); (case hg => rfl); (case hr => first | (go_simp; done) | (go_simp; rfl))
   intro gb332 hg w19 hbox hb
   replace HO328 := rl HO328 hb
   replace HO331 := rl HO331 hb
   have BK332 := Aside0.mk (hbox)
   have GW332 := gs hg
   have GE332 := gs hg
   replace HB := bs hb
   have ⟨NB320_332, NB332_320⟩ := nn BK320 hg
   replace BK320 := nk BK320 hb
   have ⟨NB321_332, NB332_321⟩ := nn BK321 hg
   replace BK321 := nk BK321 hb
   have ⟨NB322_332, NB332_322⟩ := nn BK322 hg
   replace BK322 := nk BK322 hb
   clear hb hbox hg
   refine hK.out _ _ ⟨ec BK320, ec BK320, ec BK321, ec BK321, ec BK321, ec BK321⟩ (fun hHeld => ?_)
   clear hK K
   refine nm (some 6) ?_
   exact nx (hJ4_6_7_9 (v324, v327, .slice Ao18 y329.length co18, gb332) _ ⟨hHeld, (pr HO328), (pr HO331), (pk BK320), (pk BK321), (pk BK322), (pk BK332), GW332.out, GE332.out, NB320_332.out, NB332_320.out, NB321_332.out, NB332_321.out, NB322_332.out, NB332_322.out, bw⟩)
 rintro ⟨v324, v327, v330, gb332⟩ w18 ⟨hS_, h0_, h1_, h2_, h3_, h4_, h5_, h6_, h7_, h8_, h9_, h10_, h11_, h12_, h13_, h14_⟩
 have n0_ : Aside0 (Kd.R k26 26 w18 w.heap.size (fun k_ => some k_ ≠ (v330 : Value).ownBlock ∧ k_ ≠ gb321) v327 y326) := ⟨h0_⟩
 have n1_ : Aside0 (Kd.R k26 26 w18 w.heap.size (fun k_ => some k_ ≠ (v327 : Value).ownBlock ∧ k_ ≠ gb321) v330 y329) := ⟨h1_⟩
 have n2_ : Aside0 (w18.heap[gb320]? = some (.cells #[.int .i64 a0_0, .slice A0_1 l0_1.length c0_1] 24 (0, 0))) := ⟨h2_⟩
 have n3_ : Aside0 (w18.heap[gb321]? = some (.cells #[.int .i64 a1_0, .int .i64 a1_1, .int .i64 a1_2, .int .i64 a1_3] 26 (0, 0))) := ⟨h3_⟩
 have n4_ : Aside0 (w18.heap[gb322]? = some (.cells #[.int .i64 0, .slice none 0 0] 24 (0, 0))) := ⟨h4_⟩
 have n5_ : Aside0 (w18.heap[gb332]? = some (.cells #[.int .i64 0, .slice none 0 0] 24 (0, 0))) := ⟨h5_⟩
 have n6_ : Aside0 (w.heap.size ≤ gb332) := ⟨h6_⟩
 have n7_ : Aside0 (w.heap.size ≤ gb332) := ⟨h7_⟩
 have n8_ : Aside0 (gb320 ≠ gb332) := ⟨h8_⟩
 have n9_ : Aside0 (gb332 ≠ gb320) := ⟨h9_⟩
 have n10_ : Aside0 (gb321 ≠ gb332) := ⟨h10_⟩
 have n11_ : Aside0 (gb332 ≠ gb321) := ⟨h11_⟩
 have n12_ : Aside0 (gb322 ≠ gb332) := ⟨h12_⟩
 have n13_ : Aside0 (gb332 ≠ gb322) := ⟨h13_⟩
 have n14_ : Aside0 (Below w.heap.size w w18) := ⟨h14_⟩
 clear BK320
 clear BK321
 clear BK322
 clear HB
 clear h0_ h1_ h2_ h3_ h4_ h5_ h6_ h7_ h8_ h9_ h10_ h11_ h12_ h13_ h14_
 have HO328 := n0_
 have HO331 := n1_
 have BK320 := n2_
 have BK321 := n3_
 have BK322 := n4_
 have BK332 := n5_
 have GW332 := n6_
 have GE332 := n7_
 have NB320_332 := n8_
 have NB332_320 := n9_
 have NB321_332 := n10_
 have NB332_321 := n11_
 have NB322_332 := n12_
 have NB332_322 := n13_
 have HB := n14_
 clear n0_ n1_ n2_ n3_ n4_ n5_ n6_ n7_ n8_ n9_ n10_ n11_ n12_ n13_ n14_
 have hHeld : w18.cell? ⟨gb320, 0, none⟩ = some (.int .i64 a0_0) ∧ w18.cell? ⟨gb320, 1, none⟩ = some (.slice A0_1 l0_1.length c0_1) ∧ w18.cell? ⟨gb321, 0, none⟩ = some (.int .i64 a1_0) ∧ w18.cell? ⟨gb321, 1, none⟩ = some (.int .i64 a1_1) ∧ w18.cell? ⟨gb321, 2, none⟩ = some (.int .i64 a1_2) ∧ w18.cell? ⟨gb321, 3, none⟩ = some (.int .i64 a1_3) := hS_
 obtain ⟨Ao19, co19, eo19⟩ := Kd.R_slice HO331.out
 (first | subst eo19 | (injection eo19 with f1_ f2_ f3_; have f4_ := f1_.symm; have f5_ := f3_.symm; clear f1_ f2_ f3_; subst f4_; subst f5_))
 refine norm_ (a' := ?_) ?_ ?_
 rotate_left
 ·simp only [putAll, Act.put, List.setIfInBounds_toArray, List.set_cons_zero, List.set_cons_succ]
  rfl
 refine one_ (i := 10) (N := none) (tb 11 2047) rfl rfl (one_of HT_.out (by kernel_rfl)) (by decide) (fun K hK => ?_)
 have hs20 : w18.cell? ⟨gb332, 0, none⟩ = some (.int .i64 0) := ec BK332
 have hfs20 := blk_frozen BK332.out 0
 have hns20_0 := NB320_332.out
 have hns20_1 := NB321_332.out
 have hns20_2 := NB322_332.out
 have hms20_0 := NB332_320.out
 have hms20_1 := NB332_321.out
 have hms20_2 := NB332_322.out
 have hs21 : w18.cell? ⟨gb332, 1, none⟩ = some (.slice none 0 0) := ec BK332
 have hfs21 := blk_frozen BK332.out 1
 have hns21_0 := NB320_332.out
 have hns21_1 := NB321_332.out
 have hns21_2 := NB322_332.out
 have hms21_0 := NB332_320.out
 have hms21_1 := NB332_321.out
 have hms21_2 := NB332_322.out
 refine skip_ (w1 := ?_) (by rfl) rfl ?_ ?_
 rotate_left
 ·go_simp
  rfl
 refine hK.out _ _ ⟨((cell_far (p := ⟨gb332, _, none⟩) NB320_332.out _).trans (((cell_far (p := ⟨gb332, _, none⟩) NB320_332.out _).trans (hHeld.1)))), ((cell_far (p := ⟨gb332, _, none⟩) NB320_332.out _).trans (((cell_far (p := ⟨gb332, _, none⟩) NB320_332.out _).trans (hHeld.2.1)))), ((cell_far (p := ⟨gb332, _, none⟩) NB321_332.out _).trans (((cell_far (p := ⟨gb332, _, none⟩) NB321_332.out _).trans (hHeld.2.2.1)))), ((cell_far (p := ⟨gb332, _, none⟩) NB321_332.out _).trans (((cell_far (p := ⟨gb332, _, none⟩) NB321_332.out _).trans (hHeld.2.2.2.1)))), ((cell_far (p := ⟨gb332, _, none⟩) NB321_332.out _).trans (((cell_far (p := ⟨gb332, _, none⟩) NB321_332.out _).trans (hHeld.2.2.2.2.1)))), ((cell_far (p := ⟨gb332, _, none⟩) NB321_332.out _).trans (((cell_far (p := ⟨gb332, _, none⟩) NB321_332.out _).trans (hHeld.2.2.2.2.2))))⟩ (fun hHeld => ?_)
 clear hK K
 refine done_ (done_of HT_.out (by kernel_rfl)) ?_
 have hnb22 := nb NB332_320
 have hnb23 := nb NB332_321
 have hnb24 := nb NB332_322
 have hz25 := z2 BK332
 by_cases c6 : t333 = true
 ·subst c6
  rw [if_pos rfl] at H
  simp only [Option.some.injEq, Prod.mk.injEq] at H
  obtain ⟨rfl, rfl, rfl⟩ := H
  try go_wp2_with (first | ((with_reducible refine gc 41 ?_); refine gl (some 17) Tryz.func41 #[.agg #[.int .i64 a0_0, .slice Ao19 y329.length co19]] ?_; (with_reducible refine (impl_isPuzzle.calls k a0_0 _ _ y329 true _ ?side1 ?side2 A5.out).mono ?_); (case side1 => refine (Kd.R_reads' (e := 26) (base := w.heap.size) (ok := fun k_ => (some k_ ≠ (v327 : Value).ownBlock ∧ k_ ≠ gb321)) (n := y329.length) (c := co19) ?_).2.2; exact (qf HO331)); (case side2 => exact rn HO331); rintro e w26 ⟨rfl, hb⟩; refine ⟨_, rfl, ?_⟩; replace HO328 := Aside0.mk (Kd.R_below (qf HO328) hb); replace HO331 := Aside0.mk (Kd.R_below (qf HO331) hb); replace BK320 := nf BK320 hb; replace BK321 := nf BK321 hb; replace BK322 := nf BK322 hb; replace BK332 := Aside0.mk (blk_below (g := gb332) (o := .cells #[.int .i64 a0_0, .slice Ao19 y329.length co19] 24 (0, 0)) (pz BK332) hb); replace HB := bs hb; (try clear hb); have hz27 := z2 BK332; have hz28 := z2 BK322))
  refine bodyPost_ret (results_ct rfl _ _ gb322 24 #[.int .i64 a0_0, .slice Ao19 y329.length co19] (0, 0) _ rfl (pz BK322) Tryz.underlying24 rfl (by kernel_rfl)) rfl ?_
  exact ⟨_, rs, by (with_reducible repeat (first | apply Kd.R_alloc | apply Kd.R_drewN | apply Kd.R_drew)); exact Kd.R_mono (Kd.R_far (p := ⟨gb322, 1, none⟩) (Kd.R_far (p := ⟨gb322, 0, none⟩) (Kd.R_types HO331.out BK322.out (by decide)) (fun _ hk => hk.2) (.int .i64 a0_0)) (fun _ hk => hk.2) (.slice Ao19 y329.length co19)) (fun _ hk => trivial), bw⟩
 replace c6 := Bool.eq_false_iff.mpr c6
 subst c6
 rw [if_neg (show ¬ (false = true) by decide)] at H
 simp only [Option.some.injEq, Prod.mk.injEq] at H
 obtain ⟨rfl, rfl, rfl⟩ := H
 try go_wp2_with (first | ((with_reducible refine gc 41 ?_); refine gl (some 17) Tryz.func41 #[.agg #[.int .i64 a0_0, .slice Ao19 y329.length co19]] ?_; (with_reducible refine (impl_isPuzzle.calls k a0_0 _ _ y329 false _ ?side1 ?side2 A5.out).mono ?_); (case side1 => refine (Kd.R_reads' (e := 26) (base := w.heap.size) (ok := fun k_ => (some k_ ≠ (v327 : Value).ownBlock ∧ k_ ≠ gb321)) (n := y329.length) (c := co19) ?_).2.2; exact (qf HO331)); (case side2 => exact rn HO331); rintro e w48 ⟨rfl, hb⟩; refine ⟨_, rfl, ?_⟩; replace HO328 := Aside0.mk (Kd.R_below (qf HO328) hb); replace HO331 := Aside0.mk (Kd.R_below (qf HO331) hb); replace BK320 := nf BK320 hb; replace BK321 := nf BK321 hb; replace BK322 := nf BK322 hb; replace BK332 := Aside0.mk (blk_below (g := gb332) (o := .cells #[.int .i64 a0_0, .slice Ao19 y329.length co19] 24 (0, 0)) (pz BK332) hb); replace HB := bs hb; (try clear hb); have hz49 := z2 BK322))
 refine bodyPost_ret (results_ct rfl _ _ gb322 24 #[.int .i64 0, .slice none 0 0] (0, 0) _ rfl (pz BK322) Tryz.underlying24 rfl (by kernel_rfl)) rfl ?_
 exact ⟨_, rs, by first | exact Kd.R_nil _ _ _ _ _ | exact Kd.N_nil _ _ _ _ _ | exact Kd.V_nil _ _ _ _ _ | exact Kd.Q_nil _ _ _ _ _ | exact Kd.S_nil _ _ _ _ _, bw⟩
end Go.Proofs.YtonhhfhlhlifcaaGreatDoor.PFnRowsHiddenOfAll
