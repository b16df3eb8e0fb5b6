-- Laid by xprint, a program of this session that runs over the kit's print.
import Derived.Test.YthjbmojacgkdcaaGreatDoorPFnRowsHiddenx15
namespace Go.Proofs.YthjbmojacgkdcaaGreatDoor.PFnRowsHidden
open Go.RowKit Go.Proofs.YthjbmojacgkdcaaGreatDoorW.PrintWords Go.Proofs.YthjbmojacgkdcaaGreatDoorW.PrintLast Go.Proofs.YthjbmojacgkdcaaGreatDoorW.PrintMore Go.Proofs.YthjbmojacgkdcaaGreatDoor.Sq
attribute [local go_sem] max2_int min2_int max_two min_two max_three min_three max_four min_four   -- for this text's walks alone
set_option linter.unusedVariables false
set_option linter.unusedSimpArgs false

/-! ### impl_AddClue: function 23 -/
def impl_AddClue.f (k : Nat) (a0_0 : Int) (l0_1 : List (S37)) (a1_0 : Int) (a1_1 : Int) (a1_2 : Int) (a1_3 : Int) : Option (Int × (List (S37)) × Bool) := (impl_Clue.f l0_1).bind fun t511 => ((some (([(⟨a1_0, a1_1, a1_2, a1_3⟩ : S37)] : List (S37)) : List (S37))).bind fun y514 => (if t511.length + y514.length < 4398046511104 then ((some (t511 ++ y514 : List (S37))).bind fun y517 => ((impl_isPuzzle.f k a0_0 y517).bind fun t521 => (if t521 = true then (some (a0_0, y517, true)) else (some (0, ([] : List (S37)), false))))) else (none)))
theorem impl_AddClue.mono : ∀ a0 a1 a2 a3 a4 a5 k, LeO (impl_AddClue.f k a0 a1 a2 a3 a4 a5) (impl_AddClue.f (k + 1) a0 a1 a2 a3 a4 a5) := by
  intro a0 a1 a2 a3 a4 a5 k
  unfold impl_AddClue.f
  repeat' first
      | (with_reducible exact impl_isPuzzle.mono _ _ _)
      | (with_reducible exact LeO.refl _)
      | (with_reducible exact LeO.none _)
      | (with_reducible refine LeO.ite ?_ ?_)
      | (with_reducible refine LeO.bind ?_ (fun _ => ?_))
      | exact impl_isPuzzle.mono _ _ _
      | exact LeO.none _
      | refine LeO.ite ?_ ?_
      | refine LeO.bind ?_ (fun _ => ?_)
def impl_AddClue.T1 : Bool × List (List Nat × List Nat) := (true, [([], []), ([0], [0]), ([], []), ([2], [2]), ([3], [3]), ([], []), ([5], [5]), ([4, 6, 4], [4, 6]), ([1, 7], [1, 7]), ([], []), ([9, 8, 7, 0, 1, 2, 3, 4, 5, 6, 7, 8, 9], [8, 9])])
def impl_AddClue.B1 : List Nat := [0, 1, 0, 4, 12, 0, 32, 124, 255, 0, 1023]
theorem impl_AddClue.tab1 : rtab .any (opsOf Tryz.f23 1) = impl_AddClue.T1 := by kernel_rfl
theorem impl_AddClue.bits1 : waitsOk impl_AddClue.T1.2 impl_AddClue.B1 = true := by kernel_rfl
set_option maxHeartbeats 8000000 in
set_option maxRecDepth 100000 in
theorem impl_AddClue.calls (k : Nat) (a0_0 : Int) (A0_1 : Option Addr) (c0_1 : Nat) (l0_1 : List (S37)) (a1_0 : Int) (a1_1 : Int) (a1_2 : Int) (a1_3 : Int) (r1 : Int) (r2 : List (S37)) (r3 : Bool) (w : World) (hr0_1 : Kd.C k37 w A0_1 l0_1.length l0_1) (hc0_1 : l0_1.length ≤ c0_1) (h : impl_AddClue.f k a0_0 l0_1 a1_0 a1_1 a1_2 a1_3 = some (r1, r2, r3)) :
  Calls Tryz.prog 23 #[.agg #[.int .i64 a0_0, .slice A0_1 l0_1.length c0_1], .agg #[.int .i64 a1_0, .int .i64 a1_1, .int .i64 a1_2, .int .i64 a1_3]] w fun e w' => ∃ v1_ : Value, e = .returned (.tuple #[.agg #[.int .i64 r1, v1_], .bool r3]) ∧ Kd.R k37 37 w' w.heap.size (fun _ => True) v1_ r2 ∧ Below w.heap.size w w' := by
 have hu28 := Tryz.underlying28
 have hu37 := Tryz.underlying37
 have HR0_1 := Aside0.mk hr0_1
 have HC0_1 := Aside0.mk hc0_1
 clear hr0_1 hc0_1
 have HB := Aside0.mk (Below.refl w.heap.size w)
 unfold impl_AddClue.f at h
 have H := h
 clear h
 obtain ⟨t511, A3, H⟩ := ob H
 (try dsimp only at H)
 obtain ⟨y514, hy514⟩ : ∃ y_ : List (S37), y_ = (([(⟨a1_0, a1_1, a1_2, a1_3⟩ : S37)] : List (S37))) := ⟨_, rfl⟩
 replace H : (if t511.length + y514.length < 4398046511104 then ((some (t511 ++ y514 : List (S37))).bind fun y517 => ((impl_isPuzzle.f k a0_0 y517).bind fun t521 => (if t521 = true then (some (a0_0, y517, true)) else (some (0, ([] : List (S37)), false))))) else (none)) = some (r1, r2, r3) := by first | (rw [hy514]; with_reducible exact H) | (have H2_ := (Option.bind_some _ _).symm.trans H; rw [hy514]; with_reducible exact H2_) | (have H2_ := (Option.bind_some _ _).symm.trans H; with_reducible exact H2_) | with_reducible exact H | (rw [hy514]; exact H) | exact H
 have Ny514 := Aside0.mk hy514
 clear hy514
 obtain ⟨c4, H⟩ := oi H
 have LMc4 := Aside0.mk c4
 clear c4
 obtain ⟨y517, hy517⟩ : ∃ y_ : List (S37), y_ = (t511 ++ y514) := ⟨_, rfl⟩
 replace H : ((impl_isPuzzle.f k a0_0 y517).bind fun t521 => (if t521 = true then (some (a0_0, y517, true)) else (some (0, ([] : List (S37)), false)))) = some (r1, r2, r3) := by first | (rw [hy517]; with_reducible exact H) | (have H2_ := (Option.bind_some _ _).symm.trans H; rw [hy517]; with_reducible exact H2_) | (have H2_ := (Option.bind_some _ _).symm.trans H; with_reducible exact H2_) | with_reducible exact H | (rw [hy517]; exact H) | exact H
 have Ny517 := Aside0.mk hy517
 clear hy517
 obtain ⟨t521, A5, H⟩ := ob H
 (try dsimp only at H)
 go_enter Tryz.func23, Tryz.ntmps23
 try go_wp2_with (first | ((with_reducible refine gd 2 ?_); refine bx 2 28 #[.int .i64 a0_0, .slice A0_1 l0_1.length c0_1] ?_; intro gb508 hg w7 hbox hb; have BK508 := hbox; have GW508 := gs hg; have GE508 := gs hg; replace HB := bs hb; clear hb hbox hg) | ((with_reducible refine gd 3 ?_); refine bx 3 37 #[.int .i64 a1_0, .int .i64 a1_1, .int .i64 a1_2, .int .i64 a1_3] ?_; intro gb509 hg w8 hbox hb; have BK509 := hbox; have GW509 := gs hg; have GE509 := gs hg; replace HB := bs hb; have ⟨NB508_509, NB509_508⟩ := nn BK508 hg; replace BK508 := nk BK508 hb; clear hb hbox hg) | ((with_reducible refine gd 4 ?_); refine bx 4 28 #[.int .i64 0, .slice none 0 0] ?_; intro gb510 hg w9 hbox hb; have BK510 := hbox; have GW510 := gs hg; have GE510 := gs hg; replace HB := bs hb; have ⟨NB508_510, NB510_508⟩ := nn BK508 hg; replace BK508 := nk BK508 hb; have ⟨NB509_510, NB510_509⟩ := nn BK509 hg; replace BK509 := nk BK509 hb; clear hb hbox hg))
 replace BK508 := Aside0.mk (blk_drew BK508.out)
 replace BK509 := Aside0.mk (blk_drew BK509.out)
 replace BK510 := Aside0.mk (blk_drew BK510.out)
 replace HB := Aside0.mk (below_drew1 HB.out)
 refine start_ (n := 11) (S := fun w' => w'.cell? ⟨gb508, 0, none⟩ = some (.int .i64 a0_0) ∧ w'.cell? ⟨gb508, 1, none⟩ = some (.slice A0_1 l0_1.length c0_1) ∧ w'.cell? ⟨gb509, 0, none⟩ = some (.int .i64 a1_0) ∧ w'.cell? ⟨gb509, 1, none⟩ = some (.int .i64 a1_1) ∧ w'.cell? ⟨gb509, 2, none⟩ = some (.int .i64 a1_2) ∧ w'.cell? ⟨gb509, 3, none⟩ = some (.int .i64 a1_3)) (ds := []) (tb 11 0) (by kernel_rfl) rfl rfl ⟨ec BK508, ec BK508, ec BK509, ec BK509, ec BK509, ec BK509⟩ (fun hHeld => ?_); refine with_tabW impl_AddClue.tab1 impl_AddClue.bits1 (fun HT_ HW_ => ?_)
 generalize w9.drew = w10 at BK508 BK509 BK510 HB hHeld ⊢
 refine pu 0 (some 7) (tb 11 1) ?_
 refine pu 2 (some 9) (tb 11 5) ?_
 refine tk 1 (some 8) (tb 11 7) hHeld ?_
 refine tk 3 (some 10) (tb 11 15) hHeld ?_
 refine tk 5 (some 12) (tb 11 47) hHeld ?_
 refine join_ (σ := Value × Value × Value × Nat) 1 (tb 11 1023) (fun s_ => [(11, s_.1), (13, s_.2.1), (14, s_.2.2.1), (6, .pointer (some ⟨s_.2.2.2, 0, none⟩)), (15, .agg #[.int .i64 a0_0, s_.2.2.1])]) (fun s_ w' => (w'.cell? ⟨gb508, 0, none⟩ = some (.int .i64 a0_0) ∧ w'.cell? ⟨gb508, 1, none⟩ = some (.slice A0_1 l0_1.length c0_1) ∧ w'.cell? ⟨gb509, 0, none⟩ = some (.int .i64 a1_0) ∧ w'.cell? ⟨gb509, 1, none⟩ = some (.int .i64 a1_1) ∧ w'.cell? ⟨gb509, 2, none⟩ = some (.int .i64 a1_2) ∧ w'.cell? ⟨gb509, 3, none⟩ = some (.int .i64 a1_3)) ∧ (Kd.R k37 37 w' w.heap.size (fun k_ => some k_ ≠ (s_.2.2.1 : Value).ownBlock ∧ k_ ≠ gb509) s_.2.1 y514) ∧ (Kd.R k37 37 w' w.heap.size (fun k_ => some k_ ≠ (s_.2.1 : Value).ownBlock ∧ k_ ≠ gb509) s_.2.2.1 y517) ∧ (w'.heap[gb508]? = some (.cells #[.int .i64 a0_0, .slice A0_1 l0_1.length c0_1] 28 (0, 0))) ∧ (w'.heap[gb509]? = some (.cells #[.int .i64 a1_0, .int .i64 a1_1, .int .i64 a1_2, .int .i64 a1_3] 37 (0, 0))) ∧ (w'.heap[gb510]? = some (.cells #[.int .i64 0, .slice none 0 0] 28 (0, 0))) ∧ (w'.heap[s_.2.2.2]? = some (.cells #[.int .i64 0, .slice none 0 0] 28 (0, 0))) ∧ (w.heap.size ≤ s_.2.2.2) ∧ (w.heap.size ≤ s_.2.2.2) ∧ (gb508 ≠ s_.2.2.2) ∧ (s_.2.2.2 ≠ gb508) ∧ (gb509 ≠ s_.2.2.2) ∧ (s_.2.2.2 ≠ gb509) ∧ (gb510 ≠ s_.2.2.2) ∧ (s_.2.2.2 ≠ gb510) ∧ (Below w.heap.size w w')) ?_ ?_
 rotate_left
 ·intro hJ4_6_7_9
  refine join_ (σ := Value × Value × Value) 2 (tb 11 511) (fun s_ => [(11, s_.1), (13, s_.2.1), (14, s_.2.2), (15, .agg #[.int .i64 a0_0, s_.2.2])]) (fun s_ w' => (w'.cell? ⟨gb508, 0, none⟩ = some (.int .i64 a0_0) ∧ w'.cell? ⟨gb508, 1, none⟩ = some (.slice A0_1 l0_1.length c0_1) ∧ w'.cell? ⟨gb509, 0, none⟩ = some (.int .i64 a1_0) ∧ w'.cell? ⟨gb509, 1, none⟩ = some (.int .i64 a1_1) ∧ w'.cell? ⟨gb509, 2, none⟩ = some (.int .i64 a1_2) ∧ w'.cell? ⟨gb509, 3, none⟩ = some (.int .i64 a1_3)) ∧ (Kd.R k37 37 w' w.heap.size (fun k_ => some k_ ≠ (s_.2.2 : Value).ownBlock ∧ k_ ≠ gb509) s_.2.1 y514) ∧ (Kd.R k37 37 w' w.heap.size (fun k_ => some k_ ≠ (s_.2.1 : Value).ownBlock ∧ k_ ≠ gb509) s_.2.2 y517) ∧ (w'.heap[gb508]? = some (.cells #[.int .i64 a0_0, .slice A0_1 l0_1.length c0_1] 28 (0, 0))) ∧ (w'.heap[gb509]? = some (.cells #[.int .i64 a1_0, .int .i64 a1_1, .int .i64 a1_2, .int .i64 a1_3] 37 (0, 0))) ∧ (w'.heap[gb510]? = some (.cells #[.int .i64 0, .slice none 0 0] 28 (0, 0))) ∧ (Below w.heap.size w w')) ?_ ?_
  rotate_left
  ·intro hJ4_6_7
   refine join_ (σ := Value × Value × Nat) 3 (tb 11 639) (fun s_ => [(11, s_.1), (13, s_.2.1), (6, .pointer (some ⟨s_.2.2, 0, none⟩))]) (fun s_ w' => (w'.cell? ⟨gb508, 0, none⟩ = some (.int .i64 a0_0) ∧ w'.cell? ⟨gb508, 1, none⟩ = some (.slice A0_1 l0_1.length c0_1) ∧ w'.cell? ⟨gb509, 0, none⟩ = some (.int .i64 a1_0) ∧ w'.cell? ⟨gb509, 1, none⟩ = some (.int .i64 a1_1) ∧ w'.cell? ⟨gb509, 2, none⟩ = some (.int .i64 a1_2) ∧ w'.cell? ⟨gb509, 3, none⟩ = some (.int .i64 a1_3)) ∧ (Kd.R k37 37 w' w.heap.size (fun k_ => some k_ ≠ (s_.2.1 : Value).ownBlock ∧ k_ ≠ gb509) s_.1 t511) ∧ (Kd.R k37 37 w' w.heap.size (fun k_ => some k_ ≠ (s_.1 : Value).ownBlock ∧ k_ ≠ gb509) s_.2.1 y514) ∧ (w'.heap[gb508]? = some (.cells #[.int .i64 a0_0, .slice A0_1 l0_1.length c0_1] 28 (0, 0))) ∧ (w'.heap[gb509]? = some (.cells #[.int .i64 a1_0, .int .i64 a1_1, .int .i64 a1_2, .int .i64 a1_3] 37 (0, 0))) ∧ (w'.heap[gb510]? = some (.cells #[.int .i64 0, .slice none 0 0] 28 (0, 0))) ∧ (w'.heap[s_.2.2]? = some (.cells #[.int .i64 0, .slice none 0 0] 28 (0, 0))) ∧ (w.heap.size ≤ s_.2.2) ∧ (w.heap.size ≤ s_.2.2) ∧ (gb508 ≠ s_.2.2) ∧ (s_.2.2 ≠ gb508) ∧ (gb509 ≠ s_.2.2) ∧ (s_.2.2 ≠ gb509) ∧ (gb510 ≠ s_.2.2) ∧ (s_.2.2 ≠ gb510) ∧ (Below w.heap.size w w')) ?_ ?_
   rotate_left
   ·intro hJ4_6_9
    refine join_ (σ := Value × Value) 4 (tb 11 127) (fun s_ => [(11, s_.1), (13, s_.2)]) (fun s_ w' => (w'.cell? ⟨gb508, 0, none⟩ = some (.int .i64 a0_0) ∧ w'.cell? ⟨gb508, 1, none⟩ = some (.slice A0_1 l0_1.length c0_1) ∧ w'.cell? ⟨gb509, 0, none⟩ = some (.int .i64 a1_0) ∧ w'.cell? ⟨gb509, 1, none⟩ = some (.int .i64 a1_1) ∧ w'.cell? ⟨gb509, 2, none⟩ = some (.int .i64 a1_2) ∧ w'.cell? ⟨gb509, 3, none⟩ = some (.int .i64 a1_3)) ∧ (Kd.R k37 37 w' w.heap.size (fun k_ => some k_ ≠ (s_.2 : Value).ownBlock ∧ k_ ≠ gb509) s_.1 t511) ∧ (Kd.R k37 37 w' w.heap.size (fun k_ => some k_ ≠ (s_.1 : Value).ownBlock ∧ k_ ≠ gb509) s_.2 y514) ∧ (w'.heap[gb508]? = some (.cells #[.int .i64 a0_0, .slice A0_1 l0_1.length c0_1] 28 (0, 0))) ∧ (w'.heap[gb509]? = some (.cells #[.int .i64 a1_0, .int .i64 a1_1, .int .i64 a1_2, .int .i64 a1_3] 37 (0, 0))) ∧ (w'.heap[gb510]? = some (.cells #[.int .i64 0, .slice none 0 0] 28 (0, 0))) ∧ (Below w.heap.size w w')) ?_ ?_
    rotate_left
    ·intro hJ4_6
     refine join_ (σ := Value × Nat) 4 (tb 11 575) (fun s_ => [(11, s_.1), (6, .pointer (some ⟨s_.2, 0, none⟩))]) (fun s_ w' => (w'.cell? ⟨gb508, 0, none⟩ = some (.int .i64 a0_0) ∧ w'.cell? ⟨gb508, 1, none⟩ = some (.slice A0_1 l0_1.length c0_1) ∧ w'.cell? ⟨gb509, 0, none⟩ = some (.int .i64 a1_0) ∧ w'.cell? ⟨gb509, 1, none⟩ = some (.int .i64 a1_1) ∧ w'.cell? ⟨gb509, 2, none⟩ = some (.int .i64 a1_2) ∧ w'.cell? ⟨gb509, 3, none⟩ = some (.int .i64 a1_3)) ∧ (Kd.R k37 37 w' w.heap.size (fun k_ => k_ ≠ gb509) s_.1 t511) ∧ (w'.heap[gb508]? = some (.cells #[.int .i64 a0_0, .slice A0_1 l0_1.length c0_1] 28 (0, 0))) ∧ (w'.heap[gb509]? = some (.cells #[.int .i64 a1_0, .int .i64 a1_1, .int .i64 a1_2, .int .i64 a1_3] 37 (0, 0))) ∧ (w'.heap[gb510]? = some (.cells #[.int .i64 0, .slice none 0 0] 28 (0, 0))) ∧ (w'.heap[s_.2]? = some (.cells #[.int .i64 0, .slice none 0 0] 28 (0, 0))) ∧ (w.heap.size ≤ s_.2) ∧ (w.heap.size ≤ s_.2) ∧ (gb508 ≠ s_.2) ∧ (s_.2 ≠ gb508) ∧ (gb509 ≠ s_.2) ∧ (s_.2 ≠ gb509) ∧ (gb510 ≠ s_.2) ∧ (s_.2 ≠ gb510) ∧ (Below w.heap.size w w')) ?_ ?_
     rotate_left
     ·intro hJ4_9
      refine join_ (σ := Value × Nat) 4 (tb 11 623) (fun s_ => [(13, s_.1), (6, .pointer (some ⟨s_.2, 0, none⟩))]) (fun s_ w' => (w'.cell? ⟨gb508, 0, none⟩ = some (.int .i64 a0_0) ∧ w'.cell? ⟨gb508, 1, none⟩ = some (.slice A0_1 l0_1.length c0_1) ∧ w'.cell? ⟨gb509, 0, none⟩ = some (.int .i64 a1_0) ∧ w'.cell? ⟨gb509, 1, none⟩ = some (.int .i64 a1_1) ∧ w'.cell? ⟨gb509, 2, none⟩ = some (.int .i64 a1_2) ∧ w'.cell? ⟨gb509, 3, none⟩ = some (.int .i64 a1_3)) ∧ (Kd.R k37 37 w' w.heap.size (fun k_ => k_ ≠ gb509) s_.1 y514) ∧ (w'.heap[gb508]? = some (.cells #[.int .i64 a0_0, .slice A0_1 l0_1.length c0_1] 28 (0, 0))) ∧ (w'.heap[gb509]? = some (.cells #[.int .i64 a1_0, .int .i64 a1_1, .int .i64 a1_2, .int .i64 a1_3] 37 (0, 0))) ∧ (w'.heap[gb510]? = some (.cells #[.int .i64 0, .slice none 0 0] 28 (0, 0))) ∧ (w'.heap[s_.2]? = some (.cells #[.int .i64 0, .slice none 0 0] 28 (0, 0))) ∧ (w.heap.size ≤ s_.2) ∧ (w.heap.size ≤ s_.2) ∧ (gb508 ≠ s_.2) ∧ (s_.2 ≠ gb508) ∧ (gb509 ≠ s_.2) ∧ (s_.2 ≠ gb509) ∧ (gb510 ≠ s_.2) ∧ (s_.2 ≠ gb510) ∧ (Below w.heap.size w w')) ?_ ?_
      rotate_left
      ·intro hJ6_9
       refine join_ (σ := Value) 5 (tb 11 63) (fun s_ => [(11, s_)]) (fun s_ w' => (w'.cell? ⟨gb508, 0, none⟩ = some (.int .i64 a0_0) ∧ w'.cell? ⟨gb508, 1, none⟩ = some (.slice A0_1 l0_1.length c0_1) ∧ w'.cell? ⟨gb509, 0, none⟩ = some (.int .i64 a1_0) ∧ w'.cell? ⟨gb509, 1, none⟩ = some (.int .i64 a1_1) ∧ w'.cell? ⟨gb509, 2, none⟩ = some (.int .i64 a1_2) ∧ w'.cell? ⟨gb509, 3, none⟩ = some (.int .i64 a1_3)) ∧ (Kd.R k37 37 w' w.heap.size (fun k_ => k_ ≠ gb509) s_ t511) ∧ (w'.heap[gb508]? = some (.cells #[.int .i64 a0_0, .slice A0_1 l0_1.length c0_1] 28 (0, 0))) ∧ (w'.heap[gb509]? = some (.cells #[.int .i64 a1_0, .int .i64 a1_1, .int .i64 a1_2, .int .i64 a1_3] 37 (0, 0))) ∧ (w'.heap[gb510]? = some (.cells #[.int .i64 0, .slice none 0 0] 28 (0, 0))) ∧ (Below w.heap.size w w')) ?_ ?_
       rotate_left
       ·intro hJ4
        refine join_ (σ := Value) 5 (tb 11 111) (fun s_ => [(13, s_)]) (fun s_ w' => (w'.cell? ⟨gb508, 0, none⟩ = some (.int .i64 a0_0) ∧ w'.cell? ⟨gb508, 1, none⟩ = some (.slice A0_1 l0_1.length c0_1) ∧ w'.cell? ⟨gb509, 0, none⟩ = some (.int .i64 a1_0) ∧ w'.cell? ⟨gb509, 1, none⟩ = some (.int .i64 a1_1) ∧ w'.cell? ⟨gb509, 2, none⟩ = some (.int .i64 a1_2) ∧ w'.cell? ⟨gb509, 3, none⟩ = some (.int .i64 a1_3)) ∧ (Kd.R k37 37 w' w.heap.size (fun k_ => k_ ≠ gb509) s_ y514) ∧ (w'.heap[gb508]? = some (.cells #[.int .i64 a0_0, .slice A0_1 l0_1.length c0_1] 28 (0, 0))) ∧ (w'.heap[gb509]? = some (.cells #[.int .i64 a1_0, .int .i64 a1_1, .int .i64 a1_2, .int .i64 a1_3] 37 (0, 0))) ∧ (w'.heap[gb510]? = some (.cells #[.int .i64 0, .slice none 0 0] 28 (0, 0))) ∧ (Below w.heap.size w w')) ?_ ?_
        rotate_left
        ·intro hJ6
         refine join_ (σ := Nat) 5 (tb 11 559) (fun s_ => [(6, .pointer (some ⟨s_, 0, none⟩))]) (fun s_ w' => (w'.cell? ⟨gb508, 0, none⟩ = some (.int .i64 a0_0) ∧ w'.cell? ⟨gb508, 1, none⟩ = some (.slice A0_1 l0_1.length c0_1) ∧ w'.cell? ⟨gb509, 0, none⟩ = some (.int .i64 a1_0) ∧ w'.cell? ⟨gb509, 1, none⟩ = some (.int .i64 a1_1) ∧ w'.cell? ⟨gb509, 2, none⟩ = some (.int .i64 a1_2) ∧ w'.cell? ⟨gb509, 3, none⟩ = some (.int .i64 a1_3)) ∧ (w'.heap[gb508]? = some (.cells #[.int .i64 a0_0, .slice A0_1 l0_1.length c0_1] 28 (0, 0))) ∧ (w'.heap[gb509]? = some (.cells #[.int .i64 a1_0, .int .i64 a1_1, .int .i64 a1_2, .int .i64 a1_3] 37 (0, 0))) ∧ (w'.heap[gb510]? = some (.cells #[.int .i64 0, .slice none 0 0] 28 (0, 0))) ∧ (w'.heap[s_]? = some (.cells #[.int .i64 0, .slice none 0 0] 28 (0, 0))) ∧ (w.heap.size ≤ s_) ∧ (w.heap.size ≤ s_) ∧ (gb508 ≠ s_) ∧ (s_ ≠ gb508) ∧ (gb509 ≠ s_) ∧ (s_ ≠ gb509) ∧ (gb510 ≠ s_) ∧ (s_ ≠ gb510) ∧ (Below w.heap.size w w')) ?_ ?_
         rotate_left
         ·intro hJ9
          refine three_ (i := 4) (j := 6) (k := 9) (Ni := some 11) (Nj := some 13) (Nk := some 6) (tb 11 63) (tb 11 111) (tb 11 559) rfl rfl rfl rfl rfl rfl (three_of HT_.out (by kernel_rfl)) (by decide) (by decide) (by decide) (fun K hK => ?_) (fun K hK => ?_) (fun K hK => ?_)
          ·skip
           refine go1 Tryz.func58 #[.slice A0_1 l0_1.length c0_1] ?_
           with_reducible refine (impl_Clue.calls _ _ l0_1 t511 _ ?side1 ?side2 A3.out).mono ?_
           (case side1 => exact cb HR0_1)
           (case side2 => exact HC0_1.out)
           rintro e w11 ⟨v512, rfl, ho0, hb⟩
           refine ⟨_, rfl, ?_⟩
           have HO513 := Aside0.mk (Kd.R_lower (Kd.R_newB ho0 (pk BK509)) (below_size bw))
           replace BK508 := nk BK508 hb
           replace BK509 := nk BK509 hb
           replace BK510 := nk BK510 hb
           replace HB := bs hb
           (try clear hb)
           (try clear ho0)
           refine hK.out _ _ ⟨ec BK508, ec BK508, ec BK509, ec BK509, ec BK509, ec BK509⟩ (fun hHeld => ?_)
           clear hK K
           refine nm (some 11) ?_
           exact nx (hJ4 (v512) _ ⟨hHeld, (by (with_reducible repeat (first | apply Kd.R_alloc | apply Kd.R_drewN | apply Kd.R_drew)); exact Kd.R_mono HO513.out (fun _ hk => hk.2)), (pk BK508), (pk BK509), (pk BK510), bw⟩)
          ·skip
           refine Kd.R_lit_step k37 _ 37 ?hg (N := 13) ?hd (xs := ([(⟨a1_0, a1_1, a1_2, a1_3⟩ : S37)] : List (S37))) (inner := [.int .i64 a1_0, .int .i64 a1_1, .int .i64 a1_2, .int .i64 a1_3]) (ok := fun _ => True) (okp := fun _ => True) ?hr ?hp (fun _ hk => hk) trivial (Below.refl _ _) (Nat.le_refl _) (by simp) ?_; (case hd => rfl); (case hg => rfl); (case hr => first | (go_simp; done) | (go_simp; rfl)); (case hp => exact (Reps.c4 (show Kd.M k37 _ _ _ (⟨a1_0, a1_1, a1_2, a1_3⟩ : S37) [.int .i64 a1_0, .int .i64 a1_1, .int .i64 a1_2, .int .i64 a1_3] from (k37_mkM _ _ _ (⟨a1_0, a1_1, a1_2, a1_3⟩ : S37) )) (Reps.none _ _)))
           intro v515 w11 ho12 hb hg_ hnew_
           clear hg_ hnew_
           (first | rw [← Ny514.out] at ho12 | (simp only [Int.reduceToNat] at ho12; rw [← Ny514.out] at ho12))
           have HO516 := Aside0.mk (Kd.R_lower (Kd.R_newB ho12 (pk BK509)) (below_size bw))
           replace BK508 := nk BK508 hb
           replace BK509 := nk BK509 hb
           replace BK510 := nk BK510 hb
           replace HB := bs hb
           clear hb ho12
           refine hK.out _ _ ⟨ec BK508, ec BK508, ec BK509, ec BK509, ec BK509, ec BK509⟩ (fun hHeld => ?_)
           clear hK K
           refine nm (some 13) ?_
           exact nx (hJ6 (v515) _ ⟨hHeld, (by (with_reducible repeat (first | apply Kd.R_alloc | apply Kd.R_drewN | apply Kd.R_drew)); exact Kd.R_mono HO516.out (fun _ hk => hk.2)), (pk BK508), (pk BK509), (pk BK510), bw⟩)
          ·skip
           refine box_step ?hg (N := 6) ?hd (cs := #[.int .i64 0, .slice none 0 0]) (t := 28) ?hr ?_; (case hd => rfl); (case hg => rfl); (case hr => first | (go_simp; done) | (go_simp; rfl))
           intro gb520 hg w11 hbox hb
           have BK520 := Aside0.mk (hbox)
           have GW520 := gs hg
           have GE520 := gs hg
           replace HB := bs hb
           have ⟨NB508_520, NB520_508⟩ := nn BK508 hg
           replace BK508 := nk BK508 hb
           have ⟨NB509_520, NB520_509⟩ := nn BK509 hg
           replace BK509 := nk BK509 hb
           have ⟨NB510_520, NB520_510⟩ := nn BK510 hg
           replace BK510 := nk BK510 hb
           clear hb hbox hg
           refine hK.out _ _ ⟨ec BK508, ec BK508, ec BK509, ec BK509, ec BK509, ec BK509⟩ (fun hHeld => ?_)
           clear hK K
           refine nm (some 6) ?_
           exact nx (hJ9 (gb520) _ ⟨hHeld, (pk BK508), (pk BK509), (pk BK510), (pk BK520), GW520.out, GE520.out, NB508_520.out, NB520_508.out, NB509_520.out, NB520_509.out, NB510_520.out, NB520_510.out, bw⟩)
         ·skip
          rintro gb520 w12 ⟨hS_, h0_, h1_, h2_, h3_, h4_, h5_, h6_, h7_, h8_, h9_, h10_, h11_, h12_⟩
          have n0_ : Aside0 (w12.heap[gb508]? = some (.cells #[.int .i64 a0_0, .slice A0_1 l0_1.length c0_1] 28 (0, 0))) := ⟨h0_⟩
          have n1_ : Aside0 (w12.heap[gb509]? = some (.cells #[.int .i64 a1_0, .int .i64 a1_1, .int .i64 a1_2, .int .i64 a1_3] 37 (0, 0))) := ⟨h1_⟩
          have n2_ : Aside0 (w12.heap[gb510]? = some (.cells #[.int .i64 0, .slice none 0 0] 28 (0, 0))) := ⟨h2_⟩
          have n3_ : Aside0 (w12.heap[gb520]? = some (.cells #[.int .i64 0, .slice none 0 0] 28 (0, 0))) := ⟨h3_⟩
          have n4_ : Aside0 (w.heap.size ≤ gb520) := ⟨h4_⟩
          have n5_ : Aside0 (w.heap.size ≤ gb520) := ⟨h5_⟩
          have n6_ : Aside0 (gb508 ≠ gb520) := ⟨h6_⟩
          have n7_ : Aside0 (gb520 ≠ gb508) := ⟨h7_⟩
          have n8_ : Aside0 (gb509 ≠ gb520) := ⟨h8_⟩
          have n9_ : Aside0 (gb520 ≠ gb509) := ⟨h9_⟩
          have n10_ : Aside0 (gb510 ≠ gb520) := ⟨h10_⟩
          have n11_ : Aside0 (gb520 ≠ gb510) := ⟨h11_⟩
          have n12_ : Aside0 (Below w.heap.size w w12) := ⟨h12_⟩
          clear BK508
          clear BK509
          clear BK510
          clear HB
          clear h0_ h1_ h2_ h3_ h4_ h5_ h6_ h7_ h8_ h9_ h10_ h11_ h12_
          have BK508 := n0_
          have BK509 := n1_
          have BK510 := n2_
          have BK520 := n3_
          have GW520 := n4_
          have GE520 := n5_
          have NB508_520 := n6_
          have NB520_508 := n7_
          have NB509_520 := n8_
          have NB520_509 := n9_
          have NB510_520 := n10_
          have NB520_510 := n11_
          have HB := n12_
          clear n0_ n1_ n2_ n3_ n4_ n5_ n6_ n7_ n8_ n9_ n10_ n11_ n12_
          have hHeld : w12.cell? ⟨gb508, 0, none⟩ = some (.int .i64 a0_0) ∧ w12.cell? ⟨gb508, 1, none⟩ = some (.slice A0_1 l0_1.length c0_1) ∧ w12.cell? ⟨gb509, 0, none⟩ = some (.int .i64 a1_0) ∧ w12.cell? ⟨gb509, 1, none⟩ = some (.int .i64 a1_1) ∧ w12.cell? ⟨gb509, 2, none⟩ = some (.int .i64 a1_2) ∧ w12.cell? ⟨gb509, 3, none⟩ = some (.int .i64 a1_3) := hS_
          refine norm_ (a' := ?_) ?_ ?_
          rotate_left
          ·simp only [putAll, Act.put, List.setIfInBounds_toArray, List.set_cons_zero, List.set_cons_succ]
           rfl
          refine two_ (i := 4) (j := 6) (Ni := some 11) (Nj := some 13) (tb 11 575) (tb 11 623) rfl rfl rfl rfl (two_of HT_.out (by kernel_rfl)) (by decide) (by decide) (fun K hK => ?_) (fun K hK => ?_)
          ·skip
           refine go1 Tryz.func58 #[.slice A0_1 l0_1.length c0_1] ?_
           with_reducible refine (impl_Clue.calls _ _ l0_1 t511 _ ?side1 ?side2 A3.out).mono ?_
           (case side1 => exact cb HR0_1)
           (case side2 => exact HC0_1.out)
           rintro e w13 ⟨v512, rfl, ho0, hb⟩
           refine ⟨_, rfl, ?_⟩
           have HO513 := Aside0.mk (Kd.R_lower (Kd.R_newB ho0 (pk BK509)) (below_size bw))
           replace BK508 := nk BK508 hb
           replace BK509 := nk BK509 hb
           replace BK510 := nk BK510 hb
           replace BK520 := nk BK520 hb
           replace HB := bs hb
           (try clear hb)
           (try clear ho0)
           refine hK.out _ _ ⟨ec BK508, ec BK508, ec BK509, ec BK509, ec BK509, ec BK509⟩ (fun hHeld => ?_)
           clear hK K
           refine nm (some 11) ?_
           exact nx (hJ4_9 (v512, gb520) _ ⟨hHeld, (by (with_reducible repeat (first | apply Kd.R_alloc | apply Kd.R_drewN | apply Kd.R_drew)); exact Kd.R_mono HO513.out (fun _ hk => hk.2)), (pk BK508), (pk BK509), (pk BK510), (pk BK520), GW520.out, GE520.out, NB508_520.out, NB520_508.out, NB509_520.out, NB520_509.out, NB510_520.out, NB520_510.out, bw⟩)
          ·skip
           refine Kd.R_lit_step k37 _ 37 ?hg (N := 13) ?hd (xs := ([(⟨a1_0, a1_1, a1_2, a1_3⟩ : S37)] : List (S37))) (inner := [.int .i64 a1_0, .int .i64 a1_1, .int .i64 a1_2, .int .i64 a1_3]) (ok := fun _ => True) (okp := fun _ => True) ?hr ?hp (fun _ hk => hk) trivial (Below.refl _ _) (Nat.le_refl _) (by simp) ?_; (case hd => rfl); (case hg => rfl); (case hr => first | (go_simp; done) | (go_simp; rfl)); (case hp => exact (Reps.c4 (show Kd.M k37 _ _ _ (⟨a1_0, a1_1, a1_2, a1_3⟩ : S37) [.int .i64 a1_0, .int .i64 a1_1, .int .i64 a1_2, .int .i64 a1_3] from (k37_mkM _ _ _ (⟨a1_0, a1_1, a1_2, a1_3⟩ : S37) )) (Reps.none _ _)))
           intro v515 w13 ho14 hb hg_ hnew_
           clear hg_ hnew_
           (first | rw [← Ny514.out] at ho14 | (simp only [Int.reduceToNat] at ho14; rw [← Ny514.out] at ho14))
           have HO516 := Aside0.mk (Kd.R_lower (Kd.R_newB ho14 (pk BK509)) (below_size bw))
           replace BK508 := nk BK508 hb
           replace BK509 := nk BK509 hb
           replace BK510 := nk BK510 hb
           replace BK520 := nk BK520 hb
           replace HB := bs hb
           clear hb ho14
           refine hK.out _ _ ⟨ec BK508, ec BK508, ec BK509, ec BK509, ec BK509, ec BK509⟩ (fun hHeld => ?_)
           clear hK K
           refine nm (some 13) ?_
           exact nx (hJ6_9 (v515, gb520) _ ⟨hHeld, (by (with_reducible repeat (first | apply Kd.R_alloc | apply Kd.R_drewN | apply Kd.R_drew)); exact Kd.R_mono HO516.out (fun _ hk => hk.2)), (pk BK508), (pk BK509), (pk BK510), (pk BK520), GW520.out, GE520.out, NB508_520.out, NB520_508.out, NB509_520.out, NB520_509.out, NB510_520.out, NB520_510.out, bw⟩)
        ·skip
         rintro v515 w13 ⟨hS_, h0_, h1_, h2_, h3_, h4_⟩
         have n0_ : Aside0 (Kd.R k37 37 w13 w.heap.size (fun k_ => k_ ≠ gb509) v515 y514) := ⟨h0_⟩
         have n1_ : Aside0 (w13.heap[gb508]? = some (.cells #[.int .i64 a0_0, .slice A0_1 l0_1.length c0_1] 28 (0, 0))) := ⟨h1_⟩
         have n2_ : Aside0 (w13.heap[gb509]? = some (.cells #[.int .i64 a1_0, .int .i64 a1_1, .int .i64 a1_2, .int .i64 a1_3] 37 (0, 0))) := ⟨h2_⟩
         have n3_ : Aside0 (w13.heap[gb510]? = some (.cells #[.int .i64 0, .slice none 0 0] 28 (0, 0))) := ⟨h3_⟩
         have n4_ : Aside0 (Below w.heap.size w w13) := ⟨h4_⟩
         clear BK508
         clear BK509
         clear BK510
         clear HB
         clear h0_ h1_ h2_ h3_ h4_
         have HO516 := n0_
         have BK508 := n1_
         have BK509 := n2_
         have BK510 := n3_
         have HB := n4_
         clear n0_ n1_ n2_ n3_ n4_
         have hHeld : w13.cell? ⟨gb508, 0, none⟩ = some (.int .i64 a0_0) ∧ w13.cell? ⟨gb508, 1, none⟩ = some (.slice A0_1 l0_1.length c0_1) ∧ w13.cell? ⟨gb509, 0, none⟩ = some (.int .i64 a1_0) ∧ w13.cell? ⟨gb509, 1, none⟩ = some (.int .i64 a1_1) ∧ w13.cell? ⟨gb509, 2, none⟩ = some (.int .i64 a1_2) ∧ w13.cell? ⟨gb509, 3, none⟩ = some (.int .i64 a1_3) := hS_
         refine norm_ (a' := ?_) ?_ ?_
         rotate_left
         ·simp only [putAll, Act.put, List.setIfInBounds_toArray, List.set_cons_zero, List.set_cons_succ]
          rfl
         refine two_ (i := 4) (j := 9) (Ni := some 11) (Nj := some 6) (tb 11 127) (tb 11 623) rfl rfl rfl rfl (two_of HT_.out (by kernel_rfl)) (by decide) (by decide) (fun K hK => ?_) (fun K hK => ?_)
         ·skip
          refine go1 Tryz.func58 #[.slice A0_1 l0_1.length c0_1] ?_
          with_reducible refine (impl_Clue.calls _ _ l0_1 t511 _ ?side1 ?side2 A3.out).mono ?_
          (case side1 => exact cb HR0_1)
          (case side2 => exact HC0_1.out)
          rintro e w14 ⟨v512, rfl, ho0, hb⟩
          refine ⟨_, rfl, ?_⟩
          have HO513 := Aside0.mk (Kd.R_lower (Kd.R_newB (Kd.R_new' ho0 (Kd.R_lt (pr HO516))) (pk BK509)) (below_size bw))
          replace HO516 := re HO516 ho0 hb
          replace BK508 := nk BK508 hb
          replace BK509 := nk BK509 hb
          replace BK510 := nk BK510 hb
          replace HB := bs hb
          (try clear hb)
          (try clear ho0)
          refine hK.out _ _ ⟨ec BK508, ec BK508, ec BK509, ec BK509, ec BK509, ec BK509⟩ (fun hHeld => ?_)
          clear hK K
          refine nm (some 11) ?_
          exact nx (hJ4_6 (v512, v515) _ ⟨hHeld, (by (with_reducible repeat (first | apply Kd.R_alloc | apply Kd.R_drewN | apply Kd.R_drew)); exact Kd.R_mono HO513.out (fun _ hk => ⟨hk.1.2, hk.2⟩)), (by (with_reducible repeat (first | apply Kd.R_alloc | apply Kd.R_drewN | apply Kd.R_drew)); exact Kd.R_mono HO516.out (fun _ hk => ⟨hk.2, hk.1⟩)), (pk BK508), (pk BK509), (pk BK510), bw⟩)
         ·skip
          refine box_step ?hg (N := 6) ?hd (cs := #[.int .i64 0, .slice none 0 0]) (t := 28) ?hr ?_; (case hd => rfl); (case hg => rfl); (case hr => first | (go_simp; done) | (go_simp; rfl))
          intro gb520 hg w14 hbox hb
          replace HO516 := rl HO516 hb
          have BK520 := Aside0.mk (hbox)
          have GW520 := gs hg
          have GE520 := gs hg
          replace HB := bs hb
          have ⟨NB508_520, NB520_508⟩ := nn BK508 hg
          replace BK508 := nk BK508 hb
          have ⟨NB509_520, NB520_509⟩ := nn BK509 hg
          replace BK509 := nk BK509 hb
          have ⟨NB510_520, NB520_510⟩ := nn BK510 hg
          replace BK510 := nk BK510 hb
          clear hb hbox hg
          refine hK.out _ _ ⟨ec BK508, ec BK508, ec BK509, ec BK509, ec BK509, ec BK509⟩ (fun hHeld => ?_)
          clear hK K
          refine nm (some 6) ?_
          exact nx (hJ6_9 (v515, gb520) _ ⟨hHeld, (pr HO516), (pk BK508), (pk BK509), (pk BK510), (pk BK520), GW520.out, GE520.out, NB508_520.out, NB520_508.out, NB509_520.out, NB520_509.out, NB510_520.out, NB520_510.out, bw⟩)
       ·skip
        rintro v512 w12 ⟨hS_, h0_, h1_, h2_, h3_, h4_⟩
        have n0_ : Aside0 (Kd.R k37 37 w12 w.heap.size (fun k_ => k_ ≠ gb509) v512 t511) := ⟨h0_⟩
        have n1_ : Aside0 (w12.heap[gb508]? = some (.cells #[.int .i64 a0_0, .slice A0_1 l0_1.length c0_1] 28 (0, 0))) := ⟨h1_⟩
        have n2_ : Aside0 (w12.heap[gb509]? = some (.cells #[.int .i64 a1_0, .int .i64 a1_1, .int .i64 a1_2, .int .i64 a1_3] 37 (0, 0))) := ⟨h2_⟩
        have n3_ : Aside0 (w12.heap[gb510]? = some (.cells #[.int .i64 0, .slice none 0 0] 28 (0, 0))) := ⟨h3_⟩
        have n4_ : Aside0 (Below w.heap.size w w12) := ⟨h4_⟩
        clear BK508
        clear BK509
        clear BK510
        clear HB
        clear h0_ h1_ h2_ h3_ h4_
        have HO513 := n0_
        have BK508 := n1_
        have BK509 := n2_
        have BK510 := n3_
        have HB := n4_
        clear n0_ n1_ n2_ n3_ n4_
        have hHeld : w12.cell? ⟨gb508, 0, none⟩ = some (.int .i64 a0_0) ∧ w12.cell? ⟨gb508, 1, none⟩ = some (.slice A0_1 l0_1.length c0_1) ∧ w12.cell? ⟨gb509, 0, none⟩ = some (.int .i64 a1_0) ∧ w12.cell? ⟨gb509, 1, none⟩ = some (.int .i64 a1_1) ∧ w12.cell? ⟨gb509, 2, none⟩ = some (.int .i64 a1_2) ∧ w12.cell? ⟨gb509, 3, none⟩ = some (.int .i64 a1_3) := hS_
        refine norm_ (a' := ?_) ?_ ?_
        rotate_left
        ·simp only [putAll, Act.put, List.setIfInBounds_toArray, List.set_cons_zero, List.set_cons_succ]
         rfl
        refine two_ (i := 6) (j := 9) (Ni := some 13) (Nj := some 6) (tb 11 127) (tb 11 575) rfl rfl rfl rfl (two_of HT_.out (by kernel_rfl)) (by decide) (by decide) (fun K hK => ?_) (fun K hK => ?_)
        ·skip
         refine Kd.R_lit_step k37 _ 37 ?hg (N := 13) ?hd (xs := ([(⟨a1_0, a1_1, a1_2, a1_3⟩ : S37)] : List (S37))) (inner := [.int .i64 a1_0, .int .i64 a1_1, .int .i64 a1_2, .int .i64 a1_3]) (ok := fun _ => True) (okp := fun _ => True) ?hr ?hp (fun _ hk => hk) trivial (Below.refl _ _) (Nat.le_refl _) (by simp) ?_; (case hd => rfl); (case hg => rfl); (case hr => first | (go_simp; done) | (go_simp; rfl)); (case hp => exact (Reps.c4 (show Kd.M k37 _ _ _ (⟨a1_0, a1_1, a1_2, a1_3⟩ : S37) [.int .i64 a1_0, .int .i64 a1_1, .int .i64 a1_2, .int .i64 a1_3] from (k37_mkM _ _ _ (⟨a1_0, a1_1, a1_2, a1_3⟩ : S37) )) (Reps.none _ _)))
         intro v515 w13 ho14 hb hg_ hnew_
         clear hg_ hnew_
         (first | rw [← Ny514.out] at ho14 | (simp only [Int.reduceToNat] at ho14; rw [← Ny514.out] at ho14))
         have HO516 := Aside0.mk (Kd.R_lower (Kd.R_newB (Kd.R_new' ho14 (Kd.R_lt (pr HO513))) (pk BK509)) (below_size bw))
         replace HO513 := re HO513 ho14 hb
         replace BK508 := nk BK508 hb
         replace BK509 := nk BK509 hb
         replace BK510 := nk BK510 hb
         replace HB := bs hb
         clear hb ho14
         refine hK.out _ _ ⟨ec BK508, ec BK508, ec BK509, ec BK509, ec BK509, ec BK509⟩ (fun hHeld => ?_)
         clear hK K
         refine nm (some 13) ?_
         exact nx (hJ4_6 (v512, v515) _ ⟨hHeld, (by (with_reducible repeat (first | apply Kd.R_alloc | apply Kd.R_drewN | apply Kd.R_drew)); exact Kd.R_mono HO513.out (fun _ hk => ⟨hk.2, hk.1⟩)), (by (with_reducible repeat (first | apply Kd.R_alloc | apply Kd.R_drewN | apply Kd.R_drew)); exact Kd.R_mono HO516.out (fun _ hk => ⟨hk.1.2, hk.2⟩)), (pk BK508), (pk BK509), (pk BK510), bw⟩)
        ·skip
         refine box_step ?hg (N := 6) ?hd (cs := #[.int .i64 0, .slice none 0 0]) (t := 28) ?hr ?_; (case hd => rfl); (case hg => rfl); (case hr => first | (go_simp; done) | (go_simp; rfl))
         intro gb520 hg w13 hbox hb
         replace HO513 := rl HO513 hb
         have BK520 := Aside0.mk (hbox)
         have GW520 := gs hg
         have GE520 := gs hg
         replace HB := bs hb
         have ⟨NB508_520, NB520_508⟩ := nn BK508 hg
         replace BK508 := nk BK508 hb
         have ⟨NB509_520, NB520_509⟩ := nn BK509 hg
         replace BK509 := nk BK509 hb
         have ⟨NB510_520, NB520_510⟩ := nn BK510 hg
         replace BK510 := nk BK510 hb
         clear hb hbox hg
         refine hK.out _ _ ⟨ec BK508, ec BK508, ec BK509, ec BK509, ec BK509, ec BK509⟩ (fun hHeld => ?_)
         clear hK K
         refine nm (some 6) ?_
         exact nx (hJ4_9 (v512, gb520) _ ⟨hHeld, (pr HO513), (pk BK508), (pk BK509), (pk BK510), (pk BK520), GW520.out, GE520.out, NB508_520.out, NB520_508.out, NB509_520.out, NB520_509.out, NB510_520.out, NB520_510.out, bw⟩)
      ·skip
       rintro ⟨v515, gb520⟩ w14 ⟨hS_, h0_, h1_, h2_, h3_, h4_, h5_, h6_, h7_, h8_, h9_, h10_, h11_, h12_, h13_⟩
       have n0_ : Aside0 (Kd.R k37 37 w14 w.heap.size (fun k_ => k_ ≠ gb509) v515 y514) := ⟨h0_⟩
       have n1_ : Aside0 (w14.heap[gb508]? = some (.cells #[.int .i64 a0_0, .slice A0_1 l0_1.length c0_1] 28 (0, 0))) := ⟨h1_⟩
       have n2_ : Aside0 (w14.heap[gb509]? = some (.cells #[.int .i64 a1_0, .int .i64 a1_1, .int .i64 a1_2, .int .i64 a1_3] 37 (0, 0))) := ⟨h2_⟩
       have n3_ : Aside0 (w14.heap[gb510]? = some (.cells #[.int .i64 0, .slice none 0 0] 28 (0, 0))) := ⟨h3_⟩
       have n4_ : Aside0 (w14.heap[gb520]? = some (.cells #[.int .i64 0, .slice none 0 0] 28 (0, 0))) := ⟨h4_⟩
       have n5_ : Aside0 (w.heap.size ≤ gb520) := ⟨h5_⟩
       have n6_ : Aside0 (w.heap.size ≤ gb520) := ⟨h6_⟩
       have n7_ : Aside0 (gb508 ≠ gb520) := ⟨h7_⟩
       have n8_ : Aside0 (gb520 ≠ gb508) := ⟨h8_⟩
       have n9_ : Aside0 (gb509 ≠ gb520) := ⟨h9_⟩
       have n10_ : Aside0 (gb520 ≠ gb509) := ⟨h10_⟩
       have n11_ : Aside0 (gb510 ≠ gb520) := ⟨h11_⟩
       have n12_ : Aside0 (gb520 ≠ gb510) := ⟨h12_⟩
       have n13_ : Aside0 (Below w.heap.size w w14) := ⟨h13_⟩
       clear BK508
       clear BK509
       clear BK510
       clear HB
       clear h0_ h1_ h2_ h3_ h4_ h5_ h6_ h7_ h8_ h9_ h10_ h11_ h12_ h13_
       have HO516 := n0_
       have BK508 := n1_
       have BK509 := n2_
       have BK510 := n3_
       have BK520 := n4_
       have GW520 := n5_
       have GE520 := n6_
       have NB508_520 := n7_
       have NB520_508 := n8_
       have NB509_520 := n9_
       have NB520_509 := n10_
       have NB510_520 := n11_
       have NB520_510 := n12_
       have HB := n13_
       clear n0_ n1_ n2_ n3_ n4_ n5_ n6_ n7_ n8_ n9_ n10_ n11_ n12_ n13_
       have hHeld : w14.cell? ⟨gb508, 0, none⟩ = some (.int .i64 a0_0) ∧ w14.cell? ⟨gb508, 1, none⟩ = some (.slice A0_1 l0_1.length c0_1) ∧ w14.cell? ⟨gb509, 0, none⟩ = some (.int .i64 a1_0) ∧ w14.cell? ⟨gb509, 1, none⟩ = some (.int .i64 a1_1) ∧ w14.cell? ⟨gb509, 2, none⟩ = some (.int .i64 a1_2) ∧ w14.cell? ⟨gb509, 3, none⟩ = some (.int .i64 a1_3) := hS_
       refine norm_ (a' := ?_) ?_ ?_
       rotate_left
       ·simp only [putAll, Act.put, List.setIfInBounds_toArray, List.set_cons_zero, List.set_cons_succ]
        rfl
       refine one_ (i := 4) (N := some 11) (tb 11 639) rfl rfl (one_of HT_.out (by kernel_rfl)) (by decide) (fun K hK => ?_)
       refine go1 Tryz.func58 #[.slice A0_1 l0_1.length c0_1] ?_
       with_reducible refine (impl_Clue.calls _ _ l0_1 t511 _ ?side1 ?side2 A3.out).mono ?_
       (case side1 => exact cb HR0_1)
       (case side2 => exact HC0_1.out)
       rintro e w15 ⟨v512, rfl, ho0, hb⟩
       refine ⟨_, rfl, ?_⟩
       have HO513 := Aside0.mk (Kd.R_lower (Kd.R_newB (Kd.R_new' ho0 (Kd.R_lt (pr HO516))) (pk BK509)) (below_size bw))
       replace HO516 := re HO516 ho0 hb
       replace BK508 := nk BK508 hb
       replace BK509 := nk BK509 hb
       replace BK510 := nk BK510 hb
       replace BK520 := nk BK520 hb
       replace HB := bs hb
       (try clear hb)
       (try clear ho0)
       refine hK.out _ _ ⟨ec BK508, ec BK508, ec BK509, ec BK509, ec BK509, ec BK509⟩ (fun hHeld => ?_)
       clear hK K
       refine nm (some 11) ?_
       exact nx (hJ4_6_9 (v512, v515, gb520) _ ⟨hHeld, (by (with_reducible repeat (first | apply Kd.R_alloc | apply Kd.R_drewN | apply Kd.R_drew)); exact Kd.R_mono HO513.out (fun _ hk => ⟨hk.1.2, hk.2⟩)), (by (with_reducible repeat (first | apply Kd.R_alloc | apply Kd.R_drewN | apply Kd.R_drew)); exact Kd.R_mono HO516.out (fun _ hk => ⟨hk.2, hk.1⟩)), (pk BK508), (pk BK509), (pk BK510), (pk BK520), GW520.out, GE520.out, NB508_520.out, NB520_508.out, NB509_520.out, NB520_509.out, NB510_520.out, NB520_510.out, bw⟩)
     ·skip
      rintro ⟨v512, gb520⟩ w13 ⟨hS_, h0_, h1_, h2_, h3_, h4_, h5_, h6_, h7_, h8_, h9_, h10_, h11_, h12_, h13_⟩
      have n0_ : Aside0 (Kd.R k37 37 w13 w.heap.size (fun k_ => k_ ≠ gb509) v512 t511) := ⟨h0_⟩
      have n1_ : Aside0 (w13.heap[gb508]? = some (.cells #[.int .i64 a0_0, .slice A0_1 l0_1.length c0_1] 28 (0, 0))) := ⟨h1_⟩
      have n2_ : Aside0 (w13.heap[gb509]? = some (.cells #[.int .i64 a1_0, .int .i64 a1_1, .int .i64 a1_2, .int .i64 a1_3] 37 (0, 0))) := ⟨h2_⟩
      have n3_ : Aside0 (w13.heap[gb510]? = some (.cells #[.int .i64 0, .slice none 0 0] 28 (0, 0))) := ⟨h3_⟩
      have n4_ : Aside0 (w13.heap[gb520]? = some (.cells #[.int .i64 0, .slice none 0 0] 28 (0, 0))) := ⟨h4_⟩
      have n5_ : Aside0 (w.heap.size ≤ gb520) := ⟨h5_⟩
      have n6_ : Aside0 (w.heap.size ≤ gb520) := ⟨h6_⟩
      have n7_ : Aside0 (gb508 ≠ gb520) := ⟨h7_⟩
      have n8_ : Aside0 (gb520 ≠ gb508) := ⟨h8_⟩
      have n9_ : Aside0 (gb509 ≠ gb520) := ⟨h9_⟩
      have n10_ : Aside0 (gb520 ≠ gb509) := ⟨h10_⟩
      have n11_ : Aside0 (gb510 ≠ gb520) := ⟨h11_⟩
      have n12_ : Aside0 (gb520 ≠ gb510) := ⟨h12_⟩
      have n13_ : Aside0 (Below w.heap.size w w13) := ⟨h13_⟩
      clear BK508
      clear BK509
      clear BK510
      clear HB
      clear h0_ h1_ h2_ h3_ h4_ h5_ h6_ h7_ h8_ h9_ h10_ h11_ h12_ h13_
      have HO513 := n0_
      have BK508 := n1_
      have BK509 := n2_
      have BK510 := n3_
      have BK520 := n4_
      have GW520 := n5_
      have GE520 := n6_
      have NB508_520 := n7_
      have NB520_508 := n8_
      have NB509_520 := n9_
      have NB520_509 := n10_
      have NB510_520 := n11_
      have NB520_510 := n12_
      have HB := n13_
      clear n0_ n1_ n2_ n3_ n4_ n5_ n6_ n7_ n8_ n9_ n10_ n11_ n12_ n13_
      have hHeld : w13.cell? ⟨gb508, 0, none⟩ = some (.int .i64 a0_0) ∧ w13.cell? ⟨gb508, 1, none⟩ = some (.slice A0_1 l0_1.length c0_1) ∧ w13.cell? ⟨gb509, 0, none⟩ = some (.int .i64 a1_0) ∧ w13.cell? ⟨gb509, 1, none⟩ = some (.int .i64 a1_1) ∧ w13.cell? ⟨gb509, 2, none⟩ = some (.int .i64 a1_2) ∧ w13.cell? ⟨gb509, 3, none⟩ = some (.int .i64 a1_3) := hS_
      refine norm_ (a' := ?_) ?_ ?_
      rotate_left
      ·simp only [putAll, Act.put, List.setIfInBounds_toArray, List.set_cons_zero, List.set_cons_succ]
       rfl
      refine one_ (i := 6) (N := some 13) (tb 11 639) rfl rfl (one_of HT_.out (by kernel_rfl)) (by decide) (fun K hK => ?_)
      refine Kd.R_lit_step k37 _ 37 ?hg (N := 13) ?hd (xs := ([(⟨a1_0, a1_1, a1_2, a1_3⟩ : S37)] : List (S37))) (inner := [.int .i64 a1_0, .int .i64 a1_1, .int .i64 a1_2, .int .i64 a1_3]) (ok := fun _ => True) (okp := fun _ => True) ?hr ?hp (fun _ hk => hk) trivial (Below.refl _ _) (Nat.le_refl _) (by simp) ?_; (case hd => rfl); (case hg => rfl); (case hr => first | (go_simp; done) | (go_simp; rfl)); (case hp => exact (Reps.c4 (show Kd.M k37 _ _ _ (⟨a1_0, a1_1, a1_2, a1_3⟩ : S37) [.int .i64 a1_0, .int .i64 a1_1, .int .i64 a1_2, .int .i64 a1_3] from (k37_mkM _ _ _ (⟨a1_0, a1_1, a1_2, a1_3⟩ : S37) )) (Reps.none _ _)))
      intro v515 w14 ho15 hb hg_ hnew_
      clear hg_ hnew_
      (first | rw [← Ny514.out] at ho15 | (simp only [Int.reduceToNat] at ho15; rw [← Ny514.out] at ho15))
      have HO516 := Aside0.mk (Kd.R_lower (Kd.R_newB (Kd.R_new' ho15 (Kd.R_lt (pr HO513))) (pk BK509)) (below_size bw))
      replace HO513 := re HO513 ho15 hb
      replace BK508 := nk BK508 hb
      replace BK509 := nk BK509 hb
      replace BK510 := nk BK510 hb
      replace BK520 := nk BK520 hb
      replace HB := bs hb
      clear hb ho15
      refine hK.out _ _ ⟨ec BK508, ec BK508, ec BK509, ec BK509, ec BK509, ec BK509⟩ (fun hHeld => ?_)
      clear hK K
      refine nm (some 13) ?_
      exact nx (hJ4_6_9 (v512, v515, gb520) _ ⟨hHeld, (by (with_reducible repeat (first | apply Kd.R_alloc | apply Kd.R_drewN | apply Kd.R_drew)); exact Kd.R_mono HO513.out (fun _ hk => ⟨hk.2, hk.1⟩)), (by (with_reducible repeat (first | apply Kd.R_alloc | apply Kd.R_drewN | apply Kd.R_drew)); exact Kd.R_mono HO516.out (fun _ hk => ⟨hk.1.2, hk.2⟩)), (pk BK508), (pk BK509), (pk BK510), (pk BK520), GW520.out, GE520.out, NB508_520.out, NB520_508.out, NB509_520.out, NB520_509.out, NB510_520.out, NB520_510.out, bw⟩)
    ·skip
     rintro ⟨v512, v515⟩ w14 ⟨hS_, h0_, h1_, h2_, h3_, h4_, h5_⟩
     have n0_ : Aside0 (Kd.R k37 37 w14 w.heap.size (fun k_ => some k_ ≠ (v515 : Value).ownBlock ∧ k_ ≠ gb509) v512 t511) := ⟨h0_⟩
     have n1_ : Aside0 (Kd.R k37 37 w14 w.heap.size (fun k_ => some k_ ≠ (v512 : Value).ownBlock ∧ k_ ≠ gb509) v515 y514) := ⟨h1_⟩
     have n2_ : Aside0 (w14.heap[gb508]? = some (.cells #[.int .i64 a0_0, .slice A0_1 l0_1.length c0_1] 28 (0, 0))) := ⟨h2_⟩
     have n3_ : Aside0 (w14.heap[gb509]? = some (.cells #[.int .i64 a1_0, .int .i64 a1_1, .int .i64 a1_2, .int .i64 a1_3] 37 (0, 0))) := ⟨h3_⟩
     have n4_ : Aside0 (w14.heap[gb510]? = some (.cells #[.int .i64 0, .slice none 0 0] 28 (0, 0))) := ⟨h4_⟩
     have n5_ : Aside0 (Below w.heap.size w w14) := ⟨h5_⟩
     clear BK508
     clear BK509
     clear BK510
     clear HB
     clear h0_ h1_ h2_ h3_ h4_ h5_
     have HO513 := n0_
     have HO516 := n1_
     have BK508 := n2_
     have BK509 := n3_
     have BK510 := n4_
     have HB := n5_
     clear n0_ n1_ n2_ n3_ n4_ n5_
     have hHeld : w14.cell? ⟨gb508, 0, none⟩ = some (.int .i64 a0_0) ∧ w14.cell? ⟨gb508, 1, none⟩ = some (.slice A0_1 l0_1.length c0_1) ∧ w14.cell? ⟨gb509, 0, none⟩ = some (.int .i64 a1_0) ∧ w14.cell? ⟨gb509, 1, none⟩ = some (.int .i64 a1_1) ∧ w14.cell? ⟨gb509, 2, none⟩ = some (.int .i64 a1_2) ∧ w14.cell? ⟨gb509, 3, none⟩ = some (.int .i64 a1_3) := hS_
     obtain ⟨Ao16, co16, eo16⟩ := Kd.R_slice HO516.out
     (first | subst eo16 | (injection eo16 with f1_ f2_ f3_; have f4_ := f1_.symm; have f5_ := f3_.symm; clear f1_ f2_ f3_; subst f4_; subst f5_))
     refine norm_ (a' := ?_) ?_ ?_
     rotate_left
     ·simp only [putAll, Act.put, List.setIfInBounds_toArray, List.set_cons_zero, List.set_cons_succ]
      rfl
     refine two_ (i := 7) (j := 9) (Ni := some 14) (Nj := some 6) (tb 11 255) (tb 11 639) rfl rfl rfl rfl (two_of HT_.out (by kernel_rfl)) (by decide) (by decide) (fun K hK => ?_) (fun K hK => ?_)
     ·skip
      refine Kd.R_append_rows_step k37 (w0 := w) w.heap.size (by rfl) (.tmp 11) (.tmp 13) 26 37 (.agg #[(.int .i64 0), (.int .i64 0), (.int .i64 0), (.int .i64 0)]) 32 rfl Tryz.underlying26 info37 rfl (by decide) (by omega) v512 t511 y514 _ _ _ (fun k_ => some k_ ≠ (.slice Ao16 y514.length co16 : Value).ownBlock ∧ k_ ≠ gb509) (fun _ => False) rfl rfl ?aO ?aR (fun _ _ h => h) (fun _ h => h.elim) ?aF ?aB ?aS ?aL ?_
      (case aR => exact rr HO516)
      (case aB => exact bw)
      (case aF => exact (fun k_ hk => ⟨Kd.fresh' (Kd.R_lt (pr HO516)) k_ hk, Kd.freshB (pk BK509) k_ hk⟩))
      (case aO => exact (pr HO513))
      (case aS => exact (below_size bw))
      (case aL => have := LMc4.out; omega)
      intro v518 w15 ho hb hg hat
      rw [← Ny517.out] at ho
      have n0_ := Aside0.mk (blk_grown (pk BK508) hg (Kd.R_ne HO513.out BK508.out (by decide)))
      have n1_ := Aside0.mk (blk_grown (pk BK509) hg (Kd.R_away HO513.out (fun _ hk => hk.2)))
      have n2_ := Aside0.mk (blk_grown (pk BK510) hg (Kd.R_ne HO513.out BK510.out (by decide)))
      have n3_ := Aside0.mk (Kd.R_after (ok := (fun k_ => k_ ≠ gb509)) (by (with_reducible repeat (first | apply Kd.R_alloc | apply Kd.R_drewN | apply Kd.R_drew)); exact Kd.R_mono HO516.out (fun _ hk => ⟨hk.2, hk.1⟩)) hg hat)
      have n4_ := Aside0.mk (hb)
      have n5_ := Aside0.mk (ho)
      clear BK508
      clear BK509
      clear BK510
      clear HO516
      clear HB
      clear HO513
      have BK508 := n0_
      have BK509 := n1_
      have BK510 := n2_
      have HO516 := n3_
      have HB := n4_
      have HO519 := n5_
      clear n0_ n1_ n2_ n3_ n4_ n5_
      clear ho hb hg hat
      obtain ⟨Ao17, co17, eo17⟩ := Kd.R_slice HO519.out
      (first | subst eo17 | (injection eo17 with f1_ f2_ f3_; have f4_ := f1_.symm; have f5_ := f3_.symm; clear f1_ f2_ f3_; subst f4_; subst f5_))
      refine hK.out _ _ ⟨ec BK508, ec BK508, ec BK509, ec BK509, ec BK509, ec BK509⟩ (fun hHeld => ?_)
      clear hK K
      refine nm (some 14) ?_
      refine pu 8 (some 15) (tb 11 511) ?_
      exact nx (hJ4_6_7 (v512, .slice Ao16 y514.length co16, .slice Ao17 y517.length co17) _ ⟨hHeld, (by (with_reducible repeat (first | apply Kd.R_alloc | apply Kd.R_drewN | apply Kd.R_drew)); exact Kd.R_mono HO516.out (fun _ hk => ⟨hk.2, hk.1⟩)), (pr HO519), (pk BK508), (pk BK509), (pk BK510), bw⟩)
     ·skip
      refine box_step ?hg (N := 6) ?hd (cs := #[.int .i64 0, .slice none 0 0]) (t := 28) ?hr ?_; (case hd => rfl); (case hg => rfl); (case hr => first | (go_simp; done) | (go_simp; rfl))
      intro gb520 hg w15 hbox hb
      replace HO513 := rl HO513 hb
      replace HO516 := rl HO516 hb
      have BK520 := Aside0.mk (hbox)
      have GW520 := gs hg
      have GE520 := gs hg
      replace HB := bs hb
      have ⟨NB508_520, NB520_508⟩ := nn BK508 hg
      replace BK508 := nk BK508 hb
      have ⟨NB509_520, NB520_509⟩ := nn BK509 hg
      replace BK509 := nk BK509 hb
      have ⟨NB510_520, NB520_510⟩ := nn BK510 hg
      replace BK510 := nk BK510 hb
      clear hb hbox hg
      refine hK.out _ _ ⟨ec BK508, ec BK508, ec BK509, ec BK509, ec BK509, ec BK509⟩ (fun hHeld => ?_)
      clear hK K
      refine nm (some 6) ?_
      exact nx (hJ4_6_9 (v512, .slice Ao16 y514.length co16, gb520) _ ⟨hHeld, (pr HO513), (pr HO516), (pk BK508), (pk BK509), (pk BK510), (pk BK520), GW520.out, GE520.out, NB508_520.out, NB520_508.out, NB509_520.out, NB520_509.out, NB510_520.out, NB520_510.out, bw⟩)
   ·skip
    rintro ⟨v512, v515, gb520⟩ w15 ⟨hS_, h0_, h1_, h2_, h3_, h4_, h5_, h6_, h7_, h8_, h9_, h10_, h11_, h12_, h13_, h14_⟩
    have n0_ : Aside0 (Kd.R k37 37 w15 w.heap.size (fun k_ => some k_ ≠ (v515 : Value).ownBlock ∧ k_ ≠ gb509) v512 t511) := ⟨h0_⟩
    have n1_ : Aside0 (Kd.R k37 37 w15 w.heap.size (fun k_ => some k_ ≠ (v512 : Value).ownBlock ∧ k_ ≠ gb509) v515 y514) := ⟨h1_⟩
    have n2_ : Aside0 (w15.heap[gb508]? = some (.cells #[.int .i64 a0_0, .slice A0_1 l0_1.length c0_1] 28 (0, 0))) := ⟨h2_⟩
    have n3_ : Aside0 (w15.heap[gb509]? = some (.cells #[.int .i64 a1_0, .int .i64 a1_1, .int .i64 a1_2, .int .i64 a1_3] 37 (0, 0))) := ⟨h3_⟩
    have n4_ : Aside0 (w15.heap[gb510]? = some (.cells #[.int .i64 0, .slice none 0 0] 28 (0, 0))) := ⟨h4_⟩
    have n5_ : Aside0 (w15.heap[gb520]? = some (.cells #[.int .i64 0, .slice none 0 0] 28 (0, 0))) := ⟨h5_⟩
    have n6_ : Aside0 (w.heap.size ≤ gb520) := ⟨h6_⟩
    have n7_ : Aside0 (w.heap.size ≤ gb520) := ⟨h7_⟩
    have n8_ : Aside0 (gb508 ≠ gb520) := ⟨h8_⟩
    have n9_ : Aside0 (gb520 ≠ gb508) := ⟨h9_⟩
    have n10_ : Aside0 (gb509 ≠ gb520) := ⟨h10_⟩
    have n11_ : Aside0 (gb520 ≠ gb509) := ⟨h11_⟩
    have n12_ : Aside0 (gb510 ≠ gb520) := ⟨h12_⟩
    have n13_ : Aside0 (gb520 ≠ gb510) := ⟨h13_⟩
    have n14_ : Aside0 (Below w.heap.size w w15) := ⟨h14_⟩
    clear BK508
    clear BK509
    clear BK510
    clear HB
    clear h0_ h1_ h2_ h3_ h4_ h5_ h6_ h7_ h8_ h9_ h10_ h11_ h12_ h13_ h14_
    have HO513 := n0_
    have HO516 := n1_
    have BK508 := n2_
    have BK509 := n3_
    have BK510 := n4_
    have BK520 := n5_
    have GW520 := n6_
    have GE520 := n7_
    have NB508_520 := n8_
    have NB520_508 := n9_
    have NB509_520 := n10_
    have NB520_509 := n11_
    have NB510_520 := n12_
    have NB520_510 := n13_
    have HB := n14_
    clear n0_ n1_ n2_ n3_ n4_ n5_ n6_ n7_ n8_ n9_ n10_ n11_ n12_ n13_ n14_
    have hHeld : w15.cell? ⟨gb508, 0, none⟩ = some (.int .i64 a0_0) ∧ w15.cell? ⟨gb508, 1, none⟩ = some (.slice A0_1 l0_1.length c0_1) ∧ w15.cell? ⟨gb509, 0, none⟩ = some (.int .i64 a1_0) ∧ w15.cell? ⟨gb509, 1, none⟩ = some (.int .i64 a1_1) ∧ w15.cell? ⟨gb509, 2, none⟩ = some (.int .i64 a1_2) ∧ w15.cell? ⟨gb509, 3, none⟩ = some (.int .i64 a1_3) := hS_
    obtain ⟨Ao17, co17, eo17⟩ := Kd.R_slice HO516.out
    (first | subst eo17 | (injection eo17 with f1_ f2_ f3_; have f4_ := f1_.symm; have f5_ := f3_.symm; clear f1_ f2_ f3_; subst f4_; subst f5_))
    refine norm_ (a' := ?_) ?_ ?_
    rotate_left
    ·simp only [putAll, Act.put, List.setIfInBounds_toArray, List.set_cons_zero, List.set_cons_succ]
     rfl
    refine one_ (i := 7) (N := some 14) (tb 11 767) rfl rfl (one_of HT_.out (by kernel_rfl)) (by decide) (fun K hK => ?_)
    refine Kd.R_append_rows_step k37 (w0 := w) w.heap.size (by rfl) (.tmp 11) (.tmp 13) 26 37 (.agg #[(.int .i64 0), (.int .i64 0), (.int .i64 0), (.int .i64 0)]) 32 rfl Tryz.underlying26 info37 rfl (by decide) (by omega) v512 t511 y514 _ _ _ (fun k_ => some k_ ≠ (.slice Ao17 y514.length co17 : Value).ownBlock ∧ k_ ≠ gb509) (fun _ => False) rfl rfl ?aO ?aR (fun _ _ h => h) (fun _ h => h.elim) ?aF ?aB ?aS ?aL ?_
    (case aR => exact rr HO516)
    (case aB => exact bw)
    (case aF => exact (fun k_ hk => ⟨Kd.fresh' (Kd.R_lt (pr HO516)) k_ hk, Kd.freshB (pk BK509) k_ hk⟩))
    (case aO => exact (pr HO513))
    (case aS => exact (below_size bw))
    (case aL => have := LMc4.out; omega)
    intro v518 w16 ho hb hg hat
    rw [← Ny517.out] at ho
    have n0_ := Aside0.mk (blk_grown (pk BK508) hg (Kd.R_ne HO513.out BK508.out (by decide)))
    have n1_ := Aside0.mk (blk_grown (pk BK509) hg (Kd.R_away HO513.out (fun _ hk => hk.2)))
    have n2_ := Aside0.mk (blk_grown (pk BK510) hg (Kd.R_ne HO513.out BK510.out (by decide)))
    have n3_ := Aside0.mk (Kd.R_after (ok := (fun k_ => k_ ≠ gb509)) (by (with_reducible repeat (first | apply Kd.R_alloc | apply Kd.R_drewN | apply Kd.R_drew)); exact Kd.R_mono HO516.out (fun _ hk => ⟨hk.2, hk.1⟩)) hg hat)
    have n4_ := Aside0.mk (blk_grown (pk BK520) hg (Kd.R_ne HO513.out BK520.out (by decide)))
    have n5_ := Aside0.mk (hb)
    have n6_ := Aside0.mk (ho)
    clear BK508
    clear BK509
    clear BK510
    clear HO516
    clear BK520
    clear HB
    clear HO513
    have BK508 := n0_
    have BK509 := n1_
    have BK510 := n2_
    have HO516 := n3_
    have BK520 := n4_
    have HB := n5_
    have HO519 := n6_
    clear n0_ n1_ n2_ n3_ n4_ n5_ n6_
    clear ho hb hg hat
    obtain ⟨Ao18, co18, eo18⟩ := Kd.R_slice HO519.out
    (first | subst eo18 | (injection eo18 with f1_ f2_ f3_; have f4_ := f1_.symm; have f5_ := f3_.symm; clear f1_ f2_ f3_; subst f4_; subst f5_))
    refine hK.out _ _ ⟨ec BK508, ec BK508, ec BK509, ec BK509, ec BK509, ec BK509⟩ (fun hHeld => ?_)
    clear hK K
    refine nm (some 14) ?_
    refine pu 8 (some 15) (tb 11 1023) ?_
    exact nx (hJ4_6_7_9 (v512, .slice Ao17 y514.length co17, .slice Ao18 y517.length co18, gb520) _ ⟨hHeld, (by (with_reducible repeat (first | apply Kd.R_alloc | apply Kd.R_drewN | apply Kd.R_drew)); exact Kd.R_mono HO516.out (fun _ hk => ⟨hk.2, hk.1⟩)), (pr HO519), (pk BK508), (pk BK509), (pk BK510), (pk BK520), GW520.out, GE520.out, NB508_520.out, NB520_508.out, NB509_520.out, NB520_509.out, NB510_520.out, NB520_510.out, bw⟩)
  ·skip
   rintro ⟨v512, v515, v518⟩ w17 ⟨hS_, h0_, h1_, h2_, h3_, h4_, h5_⟩
   have n0_ : Aside0 (Kd.R k37 37 w17 w.heap.size (fun k_ => some k_ ≠ (v518 : Value).ownBlock ∧ k_ ≠ gb509) v515 y514) := ⟨h0_⟩
   have n1_ : Aside0 (Kd.R k37 37 w17 w.heap.size (fun k_ => some k_ ≠ (v515 : Value).ownBlock ∧ k_ ≠ gb509) v518 y517) := ⟨h1_⟩
   have n2_ : Aside0 (w17.heap[gb508]? = some (.cells #[.int .i64 a0_0, .slice A0_1 l0_1.length c0_1] 28 (0, 0))) := ⟨h2_⟩
   have n3_ : Aside0 (w17.heap[gb509]? = some (.cells #[.int .i64 a1_0, .int .i64 a1_1, .int .i64 a1_2, .int .i64 a1_3] 37 (0, 0))) := ⟨h3_⟩
   have n4_ : Aside0 (w17.heap[gb510]? = some (.cells #[.int .i64 0, .slice none 0 0] 28 (0, 0))) := ⟨h4_⟩
   have n5_ : Aside0 (Below w.heap.size w w17) := ⟨h5_⟩
   clear BK508
   clear BK509
   clear BK510
   clear HB
   clear h0_ h1_ h2_ h3_ h4_ h5_
   have HO516 := n0_
   have HO519 := n1_
   have BK508 := n2_
   have BK509 := n3_
   have BK510 := n4_
   have HB := n5_
   clear n0_ n1_ n2_ n3_ n4_ n5_
   have hHeld : w17.cell? ⟨gb508, 0, none⟩ = some (.int .i64 a0_0) ∧ w17.cell? ⟨gb508, 1, none⟩ = some (.slice A0_1 l0_1.length c0_1) ∧ w17.cell? ⟨gb509, 0, none⟩ = some (.int .i64 a1_0) ∧ w17.cell? ⟨gb509, 1, none⟩ = some (.int .i64 a1_1) ∧ w17.cell? ⟨gb509, 2, none⟩ = some (.int .i64 a1_2) ∧ w17.cell? ⟨gb509, 3, none⟩ = some (.int .i64 a1_3) := hS_
   obtain ⟨Ao18, co18, eo18⟩ := Kd.R_slice HO519.out
   (first | subst eo18 | (injection eo18 with f1_ f2_ f3_; have f4_ := f1_.symm; have f5_ := f3_.symm; clear f1_ f2_ f3_; subst f4_; subst f5_))
   refine norm_ (a' := ?_) ?_ ?_
   rotate_left
   ·simp only [putAll, Act.put, List.setIfInBounds_toArray, List.set_cons_zero, List.set_cons_succ]
    rfl
   refine one_ (i := 9) (N := some 6) (tb 11 1023) rfl rfl (one_of HT_.out (by kernel_rfl)) (by decide) (fun K hK => ?_)
   refine box_step ?hg (N := 6) ?hd (cs := #[.int .i64 0, .slice none 0 0]) (t := 28) ?hr ?_; (case hd => rfl); (case hg => rfl); (case hr => first | (go_simp; done) | (go_simp; rfl))
   intro gb520 hg w19 hbox hb
   replace HO516 := rl HO516 hb
   replace HO519 := rl HO519 hb
   have BK520 := Aside0.mk (hbox)
   have GW520 := gs hg
   have GE520 := gs hg
   replace HB := bs hb
   have ⟨NB508_520, NB520_508⟩ := nn BK508 hg
   replace BK508 := nk BK508 hb
   have ⟨NB509_520, NB520_509⟩ := nn BK509 hg
   replace BK509 := nk BK509 hb
   have ⟨NB510_520, NB520_510⟩ := nn BK510 hg
   replace BK510 := nk BK510 hb
   clear hb hbox hg
   refine hK.out _ _ ⟨ec BK508, ec BK508, ec BK509, ec BK509, ec BK509, ec BK509⟩ (fun hHeld => ?_)
   clear hK K
   refine nm (some 6) ?_
   exact nx (hJ4_6_7_9 (v512, v515, .slice Ao18 y517.length co18, gb520) _ ⟨hHeld, (pr HO516), (pr HO519), (pk BK508), (pk BK509), (pk BK510), (pk BK520), GW520.out, GE520.out, NB508_520.out, NB520_508.out, NB509_520.out, NB520_509.out, NB510_520.out, NB520_510.out, bw⟩)
 rintro ⟨v512, v515, v518, gb520⟩ w18 ⟨hS_, h0_, h1_, h2_, h3_, h4_, h5_, h6_, h7_, h8_, h9_, h10_, h11_, h12_, h13_, h14_⟩
 have n0_ : Aside0 (Kd.R k37 37 w18 w.heap.size (fun k_ => some k_ ≠ (v518 : Value).ownBlock ∧ k_ ≠ gb509) v515 y514) := ⟨h0_⟩
 have n1_ : Aside0 (Kd.R k37 37 w18 w.heap.size (fun k_ => some k_ ≠ (v515 : Value).ownBlock ∧ k_ ≠ gb509) v518 y517) := ⟨h1_⟩
 have n2_ : Aside0 (w18.heap[gb508]? = some (.cells #[.int .i64 a0_0, .slice A0_1 l0_1.length c0_1] 28 (0, 0))) := ⟨h2_⟩
 have n3_ : Aside0 (w18.heap[gb509]? = some (.cells #[.int .i64 a1_0, .int .i64 a1_1, .int .i64 a1_2, .int .i64 a1_3] 37 (0, 0))) := ⟨h3_⟩
 have n4_ : Aside0 (w18.heap[gb510]? = some (.cells #[.int .i64 0, .slice none 0 0] 28 (0, 0))) := ⟨h4_⟩
 have n5_ : Aside0 (w18.heap[gb520]? = some (.cells #[.int .i64 0, .slice none 0 0] 28 (0, 0))) := ⟨h5_⟩
 have n6_ : Aside0 (w.heap.size ≤ gb520) := ⟨h6_⟩
 have n7_ : Aside0 (w.heap.size ≤ gb520) := ⟨h7_⟩
 have n8_ : Aside0 (gb508 ≠ gb520) := ⟨h8_⟩
 have n9_ : Aside0 (gb520 ≠ gb508) := ⟨h9_⟩
 have n10_ : Aside0 (gb509 ≠ gb520) := ⟨h10_⟩
 have n11_ : Aside0 (gb520 ≠ gb509) := ⟨h11_⟩
 have n12_ : Aside0 (gb510 ≠ gb520) := ⟨h12_⟩
 have n13_ : Aside0 (gb520 ≠ gb510) := ⟨h13_⟩
 have n14_ : Aside0 (Below w.heap.size w w18) := ⟨h14_⟩
 clear BK508
 clear BK509
 clear BK510
 clear HB
 clear h0_ h1_ h2_ h3_ h4_ h5_ h6_ h7_ h8_ h9_ h10_ h11_ h12_ h13_ h14_
 have HO516 := n0_
 have HO519 := n1_
 have BK508 := n2_
 have BK509 := n3_
 have BK510 := n4_
 have BK520 := n5_
 have GW520 := n6_
 have GE520 := n7_
 have NB508_520 := n8_
 have NB520_508 := n9_
 have NB509_520 := n10_
 have NB520_509 := n11_
 have NB510_520 := n12_
 have NB520_510 := n13_
 have HB := n14_
 clear n0_ n1_ n2_ n3_ n4_ n5_ n6_ n7_ n8_ n9_ n10_ n11_ n12_ n13_ n14_
 have hHeld : w18.cell? ⟨gb508, 0, none⟩ = some (.int .i64 a0_0) ∧ w18.cell? ⟨gb508, 1, none⟩ = some (.slice A0_1 l0_1.length c0_1) ∧ w18.cell? ⟨gb509, 0, none⟩ = some (.int .i64 a1_0) ∧ w18.cell? ⟨gb509, 1, none⟩ = some (.int .i64 a1_1) ∧ w18.cell? ⟨gb509, 2, none⟩ = some (.int .i64 a1_2) ∧ w18.cell? ⟨gb509, 3, none⟩ = some (.int .i64 a1_3) := hS_
 obtain ⟨Ao19, co19, eo19⟩ := Kd.R_slice HO519.out
 (first | subst eo19 | (injection eo19 with f1_ f2_ f3_; have f4_ := f1_.symm; have f5_ := f3_.symm; clear f1_ f2_ f3_; subst f4_; subst f5_))
 refine norm_ (a' := ?_) ?_ ?_
 rotate_left
 ·simp only [putAll, Act.put, List.setIfInBounds_toArray, List.set_cons_zero, List.set_cons_succ]
  rfl
 refine one_ (i := 10) (N := none) (tb 11 2047) rfl rfl (one_of HT_.out (by kernel_rfl)) (by decide) (fun K hK => ?_)
 have hs20 : w18.cell? ⟨gb520, 0, none⟩ = some (.int .i64 0) := ec BK520
 have hfs20 := blk_frozen BK520.out 0
 have hns20_0 := NB508_520.out
 have hns20_1 := NB509_520.out
 have hns20_2 := NB510_520.out
 have hms20_0 := NB520_508.out
 have hms20_1 := NB520_509.out
 have hms20_2 := NB520_510.out
 have hs21 : w18.cell? ⟨gb520, 1, none⟩ = some (.slice none 0 0) := ec BK520
 have hfs21 := blk_frozen BK520.out 1
 have hns21_0 := NB508_520.out
 have hns21_1 := NB509_520.out
 have hns21_2 := NB510_520.out
 have hms21_0 := NB520_508.out
 have hms21_1 := NB520_509.out
 have hms21_2 := NB520_510.out
 refine skip_ (w1 := ?_) (by rfl) rfl ?_ ?_
 rotate_left
 ·go_simp
  rfl
 refine hK.out _ _ ⟨((cell_far (p := ⟨gb520, _, none⟩) NB508_520.out _).trans (((cell_far (p := ⟨gb520, _, none⟩) NB508_520.out _).trans (hHeld.1)))), ((cell_far (p := ⟨gb520, _, none⟩) NB508_520.out _).trans (((cell_far (p := ⟨gb520, _, none⟩) NB508_520.out _).trans (hHeld.2.1)))), ((cell_far (p := ⟨gb520, _, none⟩) NB509_520.out _).trans (((cell_far (p := ⟨gb520, _, none⟩) NB509_520.out _).trans (hHeld.2.2.1)))), ((cell_far (p := ⟨gb520, _, none⟩) NB509_520.out _).trans (((cell_far (p := ⟨gb520, _, none⟩) NB509_520.out _).trans (hHeld.2.2.2.1)))), ((cell_far (p := ⟨gb520, _, none⟩) NB509_520.out _).trans (((cell_far (p := ⟨gb520, _, none⟩) NB509_520.out _).trans (hHeld.2.2.2.2.1)))), ((cell_far (p := ⟨gb520, _, none⟩) NB509_520.out _).trans (((cell_far (p := ⟨gb520, _, none⟩) NB509_520.out _).trans (hHeld.2.2.2.2.2))))⟩ (fun hHeld => ?_)
 clear hK K
 refine done_ (done_of HT_.out (by kernel_rfl)) ?_
 have hnb22 := nb NB520_508
 have hnb23 := nb NB520_509
 have hnb24 := nb NB520_510
 have hz25 := z2 BK520
 by_cases c6 : t521 = true
 ·subst c6
  rw [if_pos rfl] at H
  simp only [Option.some.injEq, Prod.mk.injEq] at H
  obtain ⟨rfl, rfl, rfl⟩ := H
  try go_wp2_with (first | ((with_reducible refine gc 53 ?_); refine gl (some 17) Tryz.func53 #[.agg #[.int .i64 a0_0, .slice Ao19 y517.length co19]] ?_; (with_reducible refine (impl_isPuzzle.calls k a0_0 _ _ y517 true _ ?side1 ?side2 A5.out).mono ?_); (case side1 => refine (Kd.R_reads' (e := 37) (base := w.heap.size) (ok := fun k_ => (some k_ ≠ (v515 : Value).ownBlock ∧ k_ ≠ gb509)) (n := y517.length) (c := co19) ?_).2.2; exact (qf HO519)); (case side2 => exact rn HO519); rintro e w26 ⟨rfl, hb⟩; refine ⟨_, rfl, ?_⟩; replace HO516 := Aside0.mk (Kd.R_below (qf HO516) hb); replace HO519 := Aside0.mk (Kd.R_below (qf HO519) hb); replace BK508 := nf BK508 hb; replace BK509 := nf BK509 hb; replace BK510 := nf BK510 hb; replace BK520 := Aside0.mk (blk_below (g := gb520) (o := .cells #[.int .i64 a0_0, .slice Ao19 y517.length co19] 28 (0, 0)) (pz BK520) hb); replace HB := bs hb; (try clear hb); have hz27 := z2 BK520; have hz28 := z2 BK510))
  refine bodyPost_ret (results_ct rfl _ _ gb510 28 #[.int .i64 a0_0, .slice Ao19 y517.length co19] (0, 0) _ rfl (pz BK510) Tryz.underlying28 rfl (by kernel_rfl)) rfl ?_
  exact ⟨_, rs, by (with_reducible repeat (first | apply Kd.R_alloc | apply Kd.R_drewN | apply Kd.R_drew)); exact Kd.R_mono (Kd.R_far (p := ⟨gb510, 1, none⟩) (Kd.R_far (p := ⟨gb510, 0, none⟩) (Kd.R_types HO519.out BK510.out (by decide)) (fun _ hk => hk.2) (.int .i64 a0_0)) (fun _ hk => hk.2) (.slice Ao19 y517.length co19)) (fun _ hk => trivial), bw⟩
 replace c6 := Bool.eq_false_iff.mpr c6
 subst c6
 rw [if_neg (show ¬ (false = true) by decide)] at H
 simp only [Option.some.injEq, Prod.mk.injEq] at H
 obtain ⟨rfl, rfl, rfl⟩ := H
 try go_wp2_with (first | ((with_reducible refine gc 53 ?_); refine gl (some 17) Tryz.func53 #[.agg #[.int .i64 a0_0, .slice Ao19 y517.length co19]] ?_; (with_reducible refine (impl_isPuzzle.calls k a0_0 _ _ y517 false _ ?side1 ?side2 A5.out).mono ?_); (case side1 => refine (Kd.R_reads' (e := 37) (base := w.heap.size) (ok := fun k_ => (some k_ ≠ (v515 : Value).ownBlock ∧ k_ ≠ gb509)) (n := y517.length) (c := co19) ?_).2.2; exact (qf HO519)); (case side2 => exact rn HO519); rintro e w48 ⟨rfl, hb⟩; refine ⟨_, rfl, ?_⟩; replace HO516 := Aside0.mk (Kd.R_below (qf HO516) hb); replace HO519 := Aside0.mk (Kd.R_below (qf HO519) hb); replace BK508 := nf BK508 hb; replace BK509 := nf BK509 hb; replace BK510 := nf BK510 hb; replace BK520 := Aside0.mk (blk_below (g := gb520) (o := .cells #[.int .i64 a0_0, .slice Ao19 y517.length co19] 28 (0, 0)) (pz BK520) hb); replace HB := bs hb; (try clear hb); have hz49 := z2 BK510))
 refine bodyPost_ret (results_ct rfl _ _ gb510 28 #[.int .i64 0, .slice none 0 0] (0, 0) _ rfl (pz BK510) Tryz.underlying28 rfl (by kernel_rfl)) rfl ?_
 exact ⟨_, rs, by first | exact Kd.R_nil _ _ _ _ _ | exact Kd.N_nil _ _ _ _ _ | exact Kd.V_nil _ _ _ _ _ | exact Kd.Q_nil _ _ _ _ _ | exact Kd.S_nil _ _ _ _ _, bw⟩
end Go.Proofs.YthjbmojacgkdcaaGreatDoor.PFnRowsHidden
