-- Laid by xprint, a program of this session that runs over the kit's print.
import Derived.Test.YtfaakdokcldnkaaGreatDoorPFnRowsGuessedOfAllx18
namespace Go.Proofs.YtfaakdokcldnkaaGreatDoor.PFnRowsGuessedOfAll
open Go.RowKit Go.Proofs.YtfaakdokcldnkaaGreatDoorW.PrintWords Go.Proofs.YtfaakdokcldnkaaGreatDoorW.PrintLast Go.Proofs.YtfaakdokcldnkaaGreatDoorW.PrintMore Go.Proofs.YtfaakdokcldnkaaGreatDoor.Sq
attribute [local go_sem] max2_int min2_int max_two min_two max_three min_three max_four min_four   -- for this text's walks alone
set_option linter.unusedVariables false
set_option linter.unusedSimpArgs false

/-! ### spec_pzParse: function 49 -/
mutual
def spec_pzParse.j0 : Nat → ByteArray → List ByteArray → Bool → Option (Int × (List (S42)) × Bool)
  | 0, _, _, _ => none
  | k + 1, x0, x4, x18 => if x18 = true then (some (0, ([] : List (S42)), false)) else (if 0 < (x4.length : Int) then ((spec_l1Read.f k (rdOf ByteArray.empty x4 0)).bind fun t455 => (if 1 < (x4.length : Int) then (if ((rdOf ByteArray.empty x4 1).size : Int) > 0 then ((spec_l1Split.f k (rdOf ByteArray.empty x4 1) 44).bind fun t459 => (spec_pzParse.l0 k x0 t459 (t459.length : Int) 0 t455 ([] : List (S42)))) else ((spec_pzGood.f k t455 ([] : List (S42))).bind fun t479 => (if t479 = true then ((spec_pzText.f k t455 ([] : List (S42))).bind fun t480 => (some (t455, ([] : List (S42)), (t480.toList == x0.toList)))) else (some (t455, ([] : List (S42)), false))))) else (none))) else (none))
def spec_pzParse.l0 : Nat → ByteArray → List ByteArray → Int → Int → Int → List (S42) → Option (Int × (List (S42)) × Bool)
  | 0, _, _, _, _, _, _ => none
  | k + 1, x0, x33, x34, x35, x457000, x457001 => if x35 < x34 then (if 0 ≤ x35 then (if x35 < (x33.length : Int) then ((spec_l1Split.f k (rdOf ByteArray.empty x33 x35) 46).bind fun t465 => (if (t465.length : Int) = 4 then (if 0 < (t465.length : Int) then ((spec_l1Read.f k (rdOf ByteArray.empty t465 0)).bind fun t469 => (if 1 < (t465.length : Int) then ((spec_l1Read.f k (rdOf ByteArray.empty t465 1)).bind fun t471 => (if 2 < (t465.length : Int) then ((spec_l1Read.f k (rdOf ByteArray.empty t465 2)).bind fun t473 => (if 3 < (t465.length : Int) then ((spec_l1Read.f k (rdOf ByteArray.empty t465 3)).bind fun t475 => (if x457001.length < 4398046511104 then (spec_pzParse.l0 k x0 x33 x34 (wrap64 (x35 + 1)) x457000 (x457001 ++ [(⟨t469, t471, t473, t475⟩ : S42)])) else (none))) else (none))) else (none))) else (none))) else (none)) else (some (0, ([] : List (S42)), false)))) else (none)) else (none)) else ((spec_pzGood.f k x457000 x457001).bind fun t462 => (if t462 = true then ((spec_pzText.f k x457000 x457001).bind fun t463 => (some (x457000, x457001, (t463.toList == x0.toList)))) else (some (x457000, x457001, false))))
end
def spec_pzParse.f (k : Nat) (a0 : ByteArray) : Option (Int × (List (S42)) × Bool) := (spec_l1Split.f k a0 58).bind fun t451 => (if (a0.size : Int) > 120 then (spec_pzParse.j0 k a0 t451 true) else (spec_pzParse.j0 k a0 t451 ((t451.length : Int) != 2)))
theorem spec_pzParse.mono_l : ∀ k, (∀ y0 y1 y2, LeO (spec_pzParse.j0 k y0 y1 y2) (spec_pzParse.j0 (k + 1) y0 y1 y2)) ∧ (∀ y0 y1 y2 y3 y4 y5, LeO (spec_pzParse.l0 k y0 y1 y2 y3 y4 y5) (spec_pzParse.l0 (k + 1) y0 y1 y2 y3 y4 y5))
  | 0 => ⟨fun _ _ _ r h => by simp [spec_pzParse.j0] at h, fun _ _ _ _ _ _ r h => by simp [spec_pzParse.l0] at h⟩
  | k + 1 => by
    obtain ⟨ih0, ih1⟩ := spec_pzParse.mono_l k
    refine ⟨?q0, ?q1⟩
    case' q0 => (intros; unfold spec_pzParse.j0)
    case' q1 => (intros; unfold spec_pzParse.l0)
    all_goals repeat' first
     | (with_reducible exact ih0 _ _ _)
     | (with_reducible exact ih1 _ _ _ _ _ _)
     | (with_reducible exact spec_l1Read.mono _ _)
     | (with_reducible exact spec_l1Split.mono _ _ _)
     | (with_reducible exact spec_pzGood.mono _ _ _)
     | (with_reducible exact spec_pzText.mono _ _ _)
     | (with_reducible exact LeO.refl _)
     | (with_reducible exact LeO.none _)
     | (with_reducible refine LeO.ite ?_ ?_)
     | (with_reducible refine LeO.bind ?_ (fun _ => ?_))
     | exact ih0 _ _ _
     | exact ih1 _ _ _ _ _ _
     | exact spec_l1Read.mono _ _
     | exact spec_l1Split.mono _ _ _
     | exact spec_pzGood.mono _ _ _
     | exact spec_pzText.mono _ _ _
     | exact LeO.none _
     | refine LeO.ite ?_ ?_
     | refine LeO.bind ?_ (fun _ => ?_)
theorem spec_pzParse.mono : ∀ a0 k, LeO (spec_pzParse.f k a0) (spec_pzParse.f (k + 1) a0) := by
  intro a0 k
  obtain ⟨ih0, ih1⟩ := spec_pzParse.mono_l k
  unfold spec_pzParse.f
  repeat' first
      | (with_reducible exact ih0 _ _ _)
      | (with_reducible exact ih1 _ _ _ _ _ _)
      | (with_reducible exact spec_l1Read.mono _ _)
      | (with_reducible exact spec_l1Split.mono _ _ _)
      | (with_reducible exact spec_pzGood.mono _ _ _)
      | (with_reducible exact spec_pzText.mono _ _ _)
      | (with_reducible exact LeO.refl _)
      | (with_reducible exact LeO.none _)
      | (with_reducible refine LeO.ite ?_ ?_)
      | (with_reducible refine LeO.bind ?_ (fun _ => ?_))
      | exact ih0 _ _ _
      | exact ih1 _ _ _ _ _ _
      | exact spec_l1Read.mono _ _
      | exact spec_l1Split.mono _ _ _
      | exact spec_pzGood.mono _ _ _
      | exact spec_pzText.mono _ _ _
      | exact LeO.none _
      | refine LeO.ite ?_ ?_
      | refine LeO.bind ?_ (fun _ => ?_)
def spec_pzParse.T12 : Bool × List (List Nat × List Nat) := (true, [([], []), ([0], [0]), ([], []), ([2], [2]), ([3], [3]), ([4], [4]), ([], []), ([6], [6]), ([7], [7]), ([8, 5], [8]), ([], []), ([10], [10]), ([11], [11]), ([12, 9], [12]), ([], []), ([14], [14]), ([15], [15]), ([16, 13], [16]), ([5, 9, 13, 17], [5, 9, 13, 17]), ([18], [18]), ([1, 19, 17], [1, 19]), ([0, 1, 2, 3, 4, 5, 6, 7, 8, 9, 10, 11, 12, 13, 14, 15, 16, 17, 18, 19, 20], []), ([21, 20, 20, 0, 1, 2, 3, 4, 5, 6, 7, 8, 9, 10, 11, 12, 13, 14, 15, 16, 17, 18, 19, 20], [20, 21])])
def spec_pzParse.B12 : List Nat := [0, 1, 0, 4, 12, 28, 0, 64, 192, 508, 0, 1024, 3072, 8188, 0, 16384, 49152, 131068, 262140, 524284, 1048575, 2097151, 4194303]
theorem spec_pzParse.tab12 : rtab .any (opsOf Tryz.f49 12) = spec_pzParse.T12 := by kernel_rfl
theorem spec_pzParse.bits12 : waitsOk spec_pzParse.T12.2 spec_pzParse.B12 = true := by kernel_rfl
def spec_pzParse.T14 : Bool × List (List Nat × List Nat) := (true, [([], []), ([], []), ([1], [1]), ([2, 2], [2]), ([3], [3]), ([4, 3, 3], [3, 4]), ([3], [3]), ([5, 6, 3], [3, 5, 6]), ([3, 7], [3, 7]), ([0, 5, 0], [0]), ([8, 9, 0, 1, 2, 3, 4, 5, 6, 7, 8, 9], [8])])
def spec_pzParse.B14 : List Nat := [0, 0, 2, 6, 14, 30, 14, 126, 254, 63, 1023]
theorem spec_pzParse.tab14 : rtab .any (opsOf Tryz.f49 14) = spec_pzParse.T14 := by kernel_rfl
theorem spec_pzParse.bits14 : waitsOk spec_pzParse.T14.2 spec_pzParse.B14 = true := by kernel_rfl
set_option maxHeartbeats 8000000 in
set_option maxRecDepth 100000 in
theorem spec_pzParse.calls (k : Nat) (a0 : ByteArray) (r1 : Int) (r2 : List (S42)) (r3 : Bool) (w : World) (h : spec_pzParse.f k a0 = some (r1, r2, r3)) :
  Calls Tryz.prog 49 #[.string a0] w fun e w' => ∃ v1_ : Value, e = .returned (.tuple #[.agg #[.int .i64 r1, v1_], .bool r3]) ∧ Kd.R k42 42 w' w.heap.size (fun _ => True) v1_ r2 ∧ Below w.heap.size w w' := by
 have hu24 := Tryz.underlying24
 have hu42 := Tryz.underlying42
 have HB := Aside0.mk (Below.refl w.heap.size w)
 unfold spec_pzParse.f at h
 have H := h
 clear h
 obtain ⟨t451, A2, H⟩ := ob H
 (try dsimp only at H)
 have HC3 := Aside0.mk H
 clear H
 go_enter Tryz.func49, Tryz.ntmps49
 go_upto_region 2 with (first | ((with_reducible refine gd 2 ?_); (try (refine gate_guard (by rfl) ?_; dsimp only)); refine bx 2 24 #[.int .i64 0, .slice none 0 0] ?_; intro gb450 hg w4 hbox hb; have BK450 := hbox; have GW450 := gs hg; have GE450 := gs hg; replace HB := bs hb; clear hb hbox hg) | ((with_reducible refine gc 70 ?_); refine gl (some 10) Tryz.func70 #[.string a0, .int .u8 58] ?_; (with_reducible refine (spec_l1Split.calls k a0 58 t451 _ A2.out).mono ?_); rintro e w5 ⟨v452, rfl, ho0, hb⟩; refine ⟨_, rfl, ?_⟩; have HO453 := Aside0.mk (Kd.R_lower ho0 (below_size bw)); replace BK450 := nk BK450 hb; replace HB := bs hb; (try clear hb); (try clear ho0)))
 (try simp only [Act.put, List.setIfInBounds_toArray, List.set_cons_zero, List.set_cons_succ])
 go_cut [18] (fun v18 wc => ∃ (kq : Nat) (x18_2 : Bool), v18 = .bool x18_2 ∧ Aside0 (spec_pzParse.j0 kq a0 t451 x18_2 = some (r1, r2, r3)) ∧ Aside0 (kq ≤ k) ∧ Aside0 (Kd.R Kd.string 9 wc w.heap.size (fun _ => True) v452 t451) ∧ Aside0 (wc.heap[gb450]? = some (.cells #[.int .i64 0, (.slice none 0 0)] 24 (0, 0))) ∧ Aside0 (Below w.heap.size w wc))
 case first =>
  have H := HC3.out
  clear HC3
  by_cases c6 : (a0.size : Int) > 120
  ·rw [if_pos c6] at H
   have c6b0 := decide_eq_true c6
   have c6b1 : decide (120 < a0.size) = true := decide_eq_true (by omega)
   clear c6
   (first | rw [c6b0] | rw [@decide_eq_true _ _ (of_decide_eq_true c6b1)] | rw [@decide_eq_false _ _ (of_decide_eq_false c6b1)] | (simp only [i64_w, i32_w]; rw [c6b0]) | skip)
   have H' := Aside0.mk H
   clear H
   go_wp2
   go_meet
   case rel => exact ⟨_, (true), (rs), H', ⟨by first | omega | exact Nat.le_refl _⟩, ⟨pr HO453⟩, ⟨pk BK450⟩, ⟨bw⟩⟩
  rw [if_neg c6] at H
  have c6b0 := decide_eq_false c6
  have c6b1 : decide (120 < a0.size) = false := decide_eq_false (by omega)
  clear c6
  (first | rw [c6b0] | rw [@decide_eq_true _ _ (of_decide_eq_true c6b1)] | rw [@decide_eq_false _ _ (of_decide_eq_false c6b1)] | (simp only [i64_w, i32_w]; rw [c6b0]) | skip)
  have H' := Aside0.mk H
  clear H
  obtain ⟨Ao7, co7, eo7⟩ := Kd.R_slice HO453.out
  subst eo7
  go_wp2
  go_meet
  case rel => exact ⟨_, (((t451.length : Int) != 2)), (rs), H', ⟨by first | omega | exact Nat.le_refl _⟩, ⟨pr HO453⟩, ⟨pk BK450⟩, ⟨bw⟩⟩
 case rest =>
  clear HC3
  try clear p2
  try clear c4
  try clear c6
  try clear c6b0
  try clear c6b1
  try clear c7
  obtain ⟨kq, x18_2, rfl, HA, HJ2, HO_4, BK450, HB⟩ := hcut
  cases kq with
  | zero => exact absurd HA.out (by simp [spec_pzParse.j0])
  | succ kj2 =>
   have H := HA.out
   clear HA
   simp only [spec_pzParse.j0] at H
   by_cases c8 : x18_2 = true
   ·subst c8
    rw [if_pos rfl] at H
    simp only [Option.some.injEq, Prod.mk.injEq] at H
    obtain ⟨rfl, rfl, rfl⟩ := H
    have hcz9_0 : wc.cell? ⟨gb450, 0, none⟩ = some (.int .i64 0) := ec BK450
    have hcz9_1 : wc.cell? ⟨gb450, 1, none⟩ = some (.slice none 0 0) := ec BK450
    have hfz9_0 := blk_frozen BK450.out 0
    have hfz9_1 := blk_frozen BK450.out 1
    go_wp2
    refine bodyPost_ret (results_ct rfl _ _ gb450 24 #[.int .i64 0, .slice none 0 0] (0, 0) _ rfl (pz BK450) Tryz.underlying24 rfl (by kernel_rfl)) rfl ?_
    exact ⟨_, rs, by first | exact Kd.R_nil _ _ _ _ _ | exact Kd.N_nil _ _ _ _ _ | exact Kd.V_nil _ _ _ _ _ | exact Kd.Q_nil _ _ _ _ _ | exact Kd.S_nil _ _ _ _ _, bw⟩
   replace c8 := Bool.eq_false_iff.mpr c8
   subst c8
   rw [if_neg (show ¬ (false = true) by decide)] at H
   obtain ⟨c10, H⟩ := oi H
   have c10b0 := decide_eq_true c10
   have c10b1 : decide (0 < t451.length) = true := decide_eq_true (by omega)
   clear c10
   obtain ⟨t455, A11, H⟩ := ob H
   (try dsimp only at H)
   obtain ⟨c12, H⟩ := oi H
   have c12b0 := decide_eq_true c12
   have c12b1 : decide (1 < t451.length) = true := decide_eq_true (by omega)
   clear c12
   by_cases c13 : ((rdOf ByteArray.empty t451 1).size : Int) > 0
   ·rw [if_pos c13] at H
    have c13b0 := decide_eq_true c13
    have c13b1 : decide (0 < (rdOf ByteArray.empty t451 1).size) = true := decide_eq_true (by omega)
    clear c13
    obtain ⟨t459, A14, H⟩ := ob H
    (try dsimp only at H)
    have H' := Aside0.mk H
    clear H
    obtain ⟨Ao15, co15, eo15⟩ := Kd.R_slice HO_4.out
    subst eo15
    have p454 : 0 ≤ (0 : Int) := (by omega)
    have q454 : 0 < (t451.length : Int) := of_decide_eq_true asm
    obtain ⟨ad454, e454, hx454_0⟩ := Kd.at_string (Kd.R_reads' HO_4.out).2.2 0 p454 q454
    cases e454
    have qi454 : (0 < t451.length) = True := eq_true (by omega)
    (try rw [show ((0 : Int)).toNat = 0 from rfl] at hx454_0)
    (try rw [Addr.add_zero'] at hx454_0)
    replace p454 := eq_true p454
    replace q454 := eq_true q454
    go_wp2_with (first | ((with_reducible refine gc 71 ?_); refine gl (some 23) Tryz.func71 #[.string (rdOf ByteArray.empty t451 0)] ?_; (with_reducible refine (spec_l1Read.calls kj2 (rdOf ByteArray.empty t451 0) t455 _ A11.out).mono ?_); rintro e w' ⟨rfl, ⟨nd, rfl⟩⟩; refine ⟨_, rfl, ?_⟩; (try (rw [drewN_self wc]; generalize hq_ : World.drewN wc _ = wc; have n0_ : Aside0 (Kd.R Kd.string 9 wc w.heap.size (fun _ => True) (.slice (some ad454) t451.length co15) t451) := ⟨by rw [← hq_]; exact (pr HO_4)⟩; have n1_ : Aside0 (wc.heap[gb450]? = some (.cells #[.int .i64 0, .slice none 0 0] 24 (0, 0))) := ⟨by rw [← hq_]; exact (pk BK450)⟩; have n2_ : Aside0 (Below w.heap.size w wc) := ⟨by rw [← hq_]; exact bw⟩; clear HO_4 BK450 HB hq_; have HO_4 := n0_; have BK450 := n1_; have HB := n2_; clear n0_ n1_ n2_))) | ((with_reducible refine gd 5 ?_); (try (refine gate_guard (by rfl) ?_; dsimp only)); refine bx 5 24 #[.int .i64 0, .slice none 0 0] ?_; intro gb456 hg w16 hbox hb; replace HO_4 := rl HO_4 hb; have BK456 := hbox; have GW456 := gs hg; have GE456 := gs hg; replace HB := bs hb; have ⟨NB450_456, NB456_450⟩ := nn BK450 hg; replace BK450 := nk BK450 hb; clear hb hbox hg; have hnb17 := nb NB456_450; obtain ⟨hcz18_0, hcz18_1, hfz18_0, hfz18_1⟩ := z2 BK456; have p457 : 0 ≤ (1 : Int) := (by omega); have q457 : 1 < (t451.length : Int) := of_decide_eq_true asm; obtain ⟨ad457, e457, hx457_0⟩ := Kd.at_string (Kd.R_reads' HO_4.out).2.2 1 p457 q457; obtain rfl : ad454 = ad457 := (by injection e457); (try simp only [show (1 : Int).toNat = 1 from rfl, Nat.reduceMul, Nat.reduceEqDiff, Go.Addr.add, ↓reduceIte] at hx457_0); have qi457 : (1 < t451.length) = True := eq_true (by omega); (try rw [show ((1 : Int)).toNat = 1 from rfl] at hx457_0); have hn457_0 : ad454.block ≠ gb456 := Kd.own_blk (Kd.R_ne HO_4.out BK456.out (by decide)); have hn457_1 : ad454.block ≠ gb456 := Kd.own_blk (Kd.R_ne HO_4.out BK456.out (by decide)); replace hx457_0 := (cell_far (p := ⟨gb456, 0, none⟩) (by first | (rw [add_block]; exact hn457_0) | (show (Addr.add _ _).block ≠ _; rw [add_block]; exact hn457_0) | exact hn457_0) (.int .i64 t455)).trans hx457_0; replace hx457_0 := (cell_far (p := ⟨gb456, 1, none⟩) (by first | (rw [add_block]; exact hn457_1) | (show (Addr.add _ _).block ≠ _; rw [add_block]; exact hn457_1) | exact hn457_1) (.slice none 0 0)).trans hx457_0; clear hn457_0; clear hn457_1; replace p457 := eq_true p457; replace q457 := eq_true q457; have p458 : 0 ≤ (1 : Int) := (by omega); have q458 : 1 < (t451.length : Int) := of_decide_eq_true asm; obtain ⟨ad458, e458, hx458_0⟩ := Kd.at_string (Kd.R_reads' HO_4.out).2.2 1 p458 q458; obtain rfl : ad454 = ad458 := (by injection e458); (try simp only [show (1 : Int).toNat = 1 from rfl, Nat.reduceMul, Nat.reduceEqDiff, Go.Addr.add, ↓reduceIte] at hx458_0); have qi458 : (1 < t451.length) = True := eq_true (by omega); (try rw [show ((1 : Int)).toNat = 1 from rfl] at hx458_0); have hn458_0 : ad454.block ≠ gb456 := Kd.own_blk (Kd.R_ne HO_4.out BK456.out (by decide)); have hn458_1 : ad454.block ≠ gb456 := Kd.own_blk (Kd.R_ne HO_4.out BK456.out (by decide)); replace hx458_0 := (cell_far (p := ⟨gb456, 0, none⟩) (by first | (rw [add_block]; exact hn458_0) | (show (Addr.add _ _).block ≠ _; rw [add_block]; exact hn458_0) | exact hn458_0) (.int .i64 t455)).trans hx458_0; replace hx458_0 := (cell_far (p := ⟨gb456, 1, none⟩) (by first | (rw [add_block]; exact hn458_1) | (show (Addr.add _ _).block ≠ _; rw [add_block]; exact hn458_1) | exact hn458_1) (.slice none 0 0)).trans hx458_0; clear hn458_0; clear hn458_1; replace p458 := eq_true p458; replace q458 := eq_true q458) | ((with_reducible refine gc 70 ?_); refine gl (some 33) Tryz.func70 #[.string (rdOf ByteArray.empty t451 1), .int .u8 44] ?_; (with_reducible refine (spec_l1Split.calls kj2 (rdOf ByteArray.empty t451 1) 44 t459 _ A14.out).mono ?_); rintro e w19 ⟨v460, rfl, ho0, hb⟩; refine ⟨_, rfl, ?_⟩; have HO461 := Aside0.mk (Kd.R_lower (Kd.R_new' ho0 (Kd.R_lt (qf HO_4))) (below_size bw)); replace HO_4 := Aside0.mk (Kd.R_elder' (qf HO_4) (Kd.R_base ho0) hb); replace BK450 := nf BK450 hb; replace BK456 := Aside0.mk (blk_below (g := gb456) (o := .cells #[.int .i64 t455, .slice none 0 0] 24 (0, 0)) (pz BK456) hb); replace HB := bs hb; (try clear hb); (try clear ho0); obtain ⟨Ao20, co20, eo20⟩ := Kd.R_slice HO461.out; subst eo20))
    go_loopg [35] kj2 (fun kq v35 w' => ∃ (x35_2 : Int) (x451000_2 : Int) (x457001_2 : List (S42)) (u457001 : Value), v35 = .int .i64 x35_2 ∧ Aside0 (spec_pzParse.l0 kq a0 t459 (t459.length : Int) x35_2 t455 x457001_2 = some (r1, r2, r3)) ∧ Aside0 (kq ≤ kj2) ∧ Aside0 (Kd.R Kd.string 9 w' w.heap.size (fun _ => True) (.slice Ao20 t459.length co20) t459) ∧ Aside0 (Kd.R k42 42 w' w.heap.size (fun _ => True) u457001 x457001_2) ∧ Aside0 (w'.heap[gb450]? = some (.cells #[.int .i64 x451000_2, (.slice none 0 0)] 24 (0, 0))) ∧ Aside0 (w'.heap[gb456]? = some (.cells #[.int .i64 t455, u457001] 24 (0, 0))) ∧ Aside0 (Below w.heap.size w w'))
    case atStart => exact ⟨(0), (0), (([] : List (S42))), (.slice none 0 0), (rs), H', ⟨Nat.le_refl _⟩, ⟨by (with_reducible repeat (first | apply Kd.R_alloc | apply Kd.R_drewN | apply Kd.R_drew)); exact Kd.R_mono HO461.out (fun _ hk => trivial)⟩, ⟨by first | exact Kd.R_nil _ _ _ _ _ | exact Kd.N_nil _ _ _ _ _ | exact Kd.V_nil _ _ _ _ _ | exact Kd.Q_nil _ _ _ _ _ | exact Kd.S_nil _ _ _ _ _⟩, ⟨pk BK450⟩, ⟨pk BK456⟩, ⟨bw⟩⟩
    case round =>
     clear H'
     try clear c1
     try clear p2
     try clear c4
     try clear p4
     try clear q4
     try clear hx4
     try clear qi4
     try clear c6
     try clear c6b0
     try clear c6b1
     try clear c7
     try clear c8
     try clear c10
     try clear c10b0
     try clear c10b1
     try clear c12
     try clear c12b0
     try clear c12b1
     try clear c13
     try clear c13b0
     try clear c13b1
     try clear c17
     try clear hcz18_0
     try clear hcz18_1
     try clear hcz9_0
     try clear hcz9_1
     try clear hfz18_0
     try clear hfz18_1
     try clear hfz9_0
     try clear hfz9_1
     try clear hx454_0
     try clear hx457_0
     try clear hx458_0
     try clear p2
     try clear p454
     try clear p457
     try clear p458
     try clear q454
     try clear q457
     try clear q458
     obtain ⟨x35_2, x451000_2, x457001_2, u457001, rfl, HA, HK2, HO_33, HO_457001, BK450, BK456, HB⟩ := hrel
     cases gk with
     | zero => exact absurd HA.out (by simp [spec_pzParse.l0])
     | succ k2 =>
      have H := HA.out
      clear HA
      simp only [spec_pzParse.l0] at H
      by_cases c21 : x35_2 < (t459.length : Int)
      ·rw [if_pos c21] at H
       have c21b0 := decide_eq_true c21
       clear c21
       obtain ⟨c22, H⟩ := oi H
       have c22b0 := decide_eq_true c22
       clear c22
       obtain ⟨c23, H⟩ := oi H
       have c23b0 := decide_eq_true c23
       clear c23
       obtain ⟨t465, A24, H⟩ := ob H
       (try dsimp only at H)
       by_cases c25 : (t465.length : Int) = 4
       ·rw [if_pos c25] at H
        have c25b0 : ((t465.length : Int) == 4) = true := beq_iff_eq.mpr c25
        have c25b1 : ((t465.length : Int) != 4) = false := bne_eq_false_iff_eq.mpr c25
        clear c25
        obtain ⟨c26, H⟩ := oi H
        have c26b0 := decide_eq_true c26
        have c26b1 : decide (0 < t465.length) = true := decide_eq_true (by omega)
        clear c26
        obtain ⟨t469, A27, H⟩ := ob H
        (try dsimp only at H)
        obtain ⟨c28, H⟩ := oi H
        have c28b0 := decide_eq_true c28
        have c28b1 : decide (1 < t465.length) = true := decide_eq_true (by omega)
        clear c28
        obtain ⟨t471, A29, H⟩ := ob H
        (try dsimp only at H)
        obtain ⟨c30, H⟩ := oi H
        have c30b0 := decide_eq_true c30
        have c30b1 : decide (2 < t465.length) = true := decide_eq_true (by omega)
        clear c30
        obtain ⟨t473, A31, H⟩ := ob H
        (try dsimp only at H)
        obtain ⟨c32, H⟩ := oi H
        have c32b0 := decide_eq_true c32
        have c32b1 : decide (3 < t465.length) = true := decide_eq_true (by omega)
        clear c32
        obtain ⟨t475, A33, H⟩ := ob H
        (try dsimp only at H)
        obtain ⟨c34, H⟩ := oi H
        have LMc34 := Aside0.mk c34
        clear c34
        obtain ⟨y476, hy476⟩ : ∃ y_ : List (S42), y_ = (x457001_2 ++ [(⟨t469, t471, t473, t475⟩ : S42)]) := ⟨_, rfl⟩
        replace H : (spec_pzParse.l0 k2 a0 t459 (t459.length : Int) (wrap64 (x35_2 + 1)) t455 y476) = some (r1, r2, r3) := by first | (rw [hy476]; with_reducible exact H) | (have H2_ := (Option.bind_some _ _).symm.trans H; rw [hy476]; with_reducible exact H2_) | (have H2_ := (Option.bind_some _ _).symm.trans H; with_reducible exact H2_) | with_reducible exact H | (rw [hy476]; exact H) | exact H
        have Ny476 := Aside0.mk hy476
        clear hy476
        have H' := Aside0.mk H
        clear H
        have p464 : 0 ≤ (x35_2 : Int) := of_decide_eq_true asm
        have q464 : x35_2 < (t459.length : Int) := of_decide_eq_true asm
        obtain ⟨ad464, e464, hx464_0⟩ := Kd.at_string (Kd.R_reads' HO_33.out).2.2 x35_2 p464 q464
        cases e464
        replace p464 := eq_true p464
        replace q464 := eq_true q464
        try go_wp2_with (first | ((with_reducible refine gc 70 ?_); refine gl (some 40) Tryz.func70 #[.string (rdOf ByteArray.empty t459 x35_2), .int .u8 46] ?_; (with_reducible refine (spec_l1Split.calls k2 (rdOf ByteArray.empty t459 x35_2) 46 t465 _ A24.out).mono ?_); rintro e w35 ⟨v466, rfl, ho0, hb⟩; refine ⟨_, rfl, ?_⟩; replace HO_457001 := rl HO_457001 hb; have HO467 := Aside0.mk (Kd.R_lower (Kd.R_new' ho0 (Kd.R_lt (pr HO_33))) (below_size bw)); replace HO_33 := re HO_33 ho0 hb; replace BK450 := nk BK450 hb; replace BK456 := nk BK456 hb; replace HB := bs hb; (try clear hb); (try clear ho0); obtain ⟨Ao36, co36, eo36⟩ := Kd.R_slice HO467.out; subst eo36))
        replace HO_33 := Aside0.mk (Kd.R_drew HO_33.out)
        replace HO_457001 := Aside0.mk (Kd.R_drew HO_457001.out)
        replace HO467 := Aside0.mk (Kd.R_drew HO467.out)
        replace BK450 := Aside0.mk (blk_drew BK450.out)
        replace BK456 := Aside0.mk (blk_drew BK456.out)
        replace HB := Aside0.mk (below_drew1 HB.out)
        have p468 : 0 ≤ (0 : Int) := (by omega)
        have q468 : 0 < (t465.length : Int) := of_decide_eq_true asm
        obtain ⟨ad468, e468, hx468_0⟩ := Kd.at_string (Kd.R_reads' HO467.out).2.2 0 p468 q468
        cases e468
        have qi468 : (0 < t465.length) = True := eq_true (by omega)
        (try rw [show ((0 : Int)).toNat = 0 from rfl] at hx468_0)
        (try rw [Addr.add_zero'] at hx468_0)
        replace p468 := eq_true p468
        replace q468 := eq_true q468
        have p470 : 0 ≤ (1 : Int) := (by omega)
        have q470 : 1 < (t465.length : Int) := of_decide_eq_true asm
        obtain ⟨ad470, e470, hx470_0⟩ := Kd.at_string (Kd.R_reads' HO467.out).2.2 1 p470 q470
        obtain rfl : ad468 = ad470 := (by injection e470)
        (try simp only [show (1 : Int).toNat = 1 from rfl, Nat.reduceMul, Nat.reduceEqDiff, Go.Addr.add, ↓reduceIte] at hx470_0)
        have qi470 : (1 < t465.length) = True := eq_true (by omega)
        (try rw [show ((1 : Int)).toNat = 1 from rfl] at hx470_0)
        replace p470 := eq_true p470
        replace q470 := eq_true q470
        have p472 : 0 ≤ (2 : Int) := (by omega)
        have q472 : 2 < (t465.length : Int) := of_decide_eq_true asm
        obtain ⟨ad472, e472, hx472_0⟩ := Kd.at_string (Kd.R_reads' HO467.out).2.2 2 p472 q472
        obtain rfl : ad468 = ad472 := (by injection e472)
        (try simp only [show (2 : Int).toNat = 2 from rfl, Nat.reduceMul, Nat.reduceEqDiff, Go.Addr.add, ↓reduceIte] at hx472_0)
        have qi472 : (2 < t465.length) = True := eq_true (by omega)
        (try rw [show ((2 : Int)).toNat = 2 from rfl] at hx472_0)
        replace p472 := eq_true p472
        replace q472 := eq_true q472
        have p474 : 0 ≤ (3 : Int) := (by omega)
        have q474 : 3 < (t465.length : Int) := of_decide_eq_true asm
        obtain ⟨ad474, e474, hx474_0⟩ := Kd.at_string (Kd.R_reads' HO467.out).2.2 3 p474 q474
        obtain rfl : ad468 = ad474 := (by injection e474)
        (try simp only [show (3 : Int).toNat = 3 from rfl, Nat.reduceMul, Nat.reduceEqDiff, Go.Addr.add, ↓reduceIte] at hx474_0)
        have qi474 : (3 < t465.length) = True := eq_true (by omega)
        (try rw [show ((3 : Int)).toNat = 3 from rfl] at hx474_0)
        replace p474 := eq_true p474
        replace q474 := eq_true q474
        refine start_ (n := 23) (S := fun w' => w'.cell? ⟨gb456, 0, none⟩ = some (.int .i64 t455) ∧ w'.cell? ⟨gb456, 1, none⟩ = some (u457001) ∧ w'.cell? ad468 = some (.string (rdOf ByteArray.empty t465 0)) ∧ w'.cell? ⟨ad468.block, ad468.off + 1, none⟩ = some (.string (rdOf ByteArray.empty t465 1)) ∧ w'.cell? ⟨ad468.block, ad468.off + 2, none⟩ = some (.string (rdOf ByteArray.empty t465 2)) ∧ w'.cell? ⟨ad468.block, ad468.off + 3, none⟩ = some (.string (rdOf ByteArray.empty t465 3))) (ds := [20, 22]) (tb 23 0) (by kernel_rfl) rfl rfl ⟨ec BK456, ec BK456, hx468_0, hx470_0, hx472_0, hx474_0⟩ (fun hHeld => ?_); refine with_tabW spec_pzParse.tab12 spec_pzParse.bits12 (fun HT_ HW_ => ?_)
        generalize w35.drew = w37 at HO_33 HO_457001 HO467 BK450 BK456 HB hx468_0 hx470_0 hx472_0 hx474_0 hHeld ⊢
        refine pu 0 (some 45) (tb 23 1) ?_
        refine pu 2 (some 47) (tb 23 5) ?_
        refine pu 3 (some 48) (tb 23 13) ?_
        refine pu 6 (some 51) (tb 23 77) ?_
        refine pu 7 (some 52) (tb 23 205) ?_
        refine pu 10 (some 55) (tb 23 1229) ?_
        refine pu 11 (some 56) (tb 23 3277) ?_
        refine pu 14 (some 59) (tb 23 19661) ?_
        refine pu 15 (some 60) (tb 23 52429) ?_
        refine tk 1 (some 46) (tb 23 52431) hHeld ?_
        refine tk 4 (some 49) (tb 23 52447) hHeld ?_
        refine tk 8 (some 53) (tb 23 52703) hHeld ?_
        refine tk 12 (some 57) (tb 23 56799) hHeld ?_
        refine tk 16 (some 61) (tb 23 122335) hHeld ?_
        refine one_ (i := 5) (N := some 50) (tb 23 122367) rfl rfl (one_of HT_.out (by kernel_rfl)) (by decide) (fun K hK => ?_)
        refine go1 Tryz.func71 #[.string (rdOf ByteArray.empty t465 0)] ?_
        with_reducible refine (spec_l1Read.calls k2 (rdOf ByteArray.empty t465 0) t469 _ A27.out).mono ?_
        rintro e w' ⟨rfl, ⟨nd, rfl⟩⟩
        refine ⟨_, rfl, ?_⟩
        refine hK.out _ _ ⟨ec BK456, ec BK456, hHeld.2.2.1, hHeld.2.2.2.1, hHeld.2.2.2.2.1, hHeld.2.2.2.2.2⟩ (fun hHeld => ?_)
        clear hK K
        refine nm (some 50) ?_
        refine one_ (i := 9) (N := some 54) (tb 23 122879) rfl rfl (one_of HT_.out (by kernel_rfl)) (by decide) (fun K hK => ?_)
        refine go1 Tryz.func71 #[.string (rdOf ByteArray.empty t465 1)] ?_
        with_reducible refine (spec_l1Read.calls k2 (rdOf ByteArray.empty t465 1) t471 _ A29.out).mono ?_
        rintro e w' ⟨rfl, ⟨nd, rfl⟩⟩
        refine ⟨_, rfl, ?_⟩
        refine hK.out _ _ ⟨ec BK456, ec BK456, hHeld.2.2.1, hHeld.2.2.2.1, hHeld.2.2.2.2.1, hHeld.2.2.2.2.2⟩ (fun hHeld => ?_)
        clear hK K
        refine nm (some 54) ?_
        refine one_ (i := 13) (N := some 58) (tb 23 131071) rfl rfl (one_of HT_.out (by kernel_rfl)) (by decide) (fun K hK => ?_)
        refine go1 Tryz.func71 #[.string (rdOf ByteArray.empty t465 2)] ?_
        with_reducible refine (spec_l1Read.calls k2 (rdOf ByteArray.empty t465 2) t473 _ A31.out).mono ?_
        rintro e w' ⟨rfl, ⟨nd, rfl⟩⟩
        refine ⟨_, rfl, ?_⟩
        refine hK.out _ _ ⟨ec BK456, ec BK456, hHeld.2.2.1, hHeld.2.2.2.1, hHeld.2.2.2.2.1, hHeld.2.2.2.2.2⟩ (fun hHeld => ?_)
        clear hK K
        refine nm (some 58) ?_
        refine one_ (i := 17) (N := some 62) (tb 23 262143) rfl rfl (one_of HT_.out (by kernel_rfl)) (by decide) (fun K hK => ?_)
        refine go1 Tryz.func71 #[.string (rdOf ByteArray.empty t465 3)] ?_
        with_reducible refine (spec_l1Read.calls k2 (rdOf ByteArray.empty t465 3) t475 _ A33.out).mono ?_
        rintro e w' ⟨rfl, ⟨nd, rfl⟩⟩
        refine ⟨_, rfl, ?_⟩
        refine hK.out _ _ ⟨ec BK456, ec BK456, hHeld.2.2.1, hHeld.2.2.2.1, hHeld.2.2.2.2.1, hHeld.2.2.2.2.2⟩ (fun hHeld => ?_)
        clear hK K
        refine nm (some 62) ?_
        refine pu 18 (some 63) (tb 23 524287) ?_
        refine one_ (i := 19) (N := some 64) (tb 23 1048575) rfl rfl (one_of HT_.out (by kernel_rfl)) (by decide) (fun K hK => ?_)
        refine value_ (w1 := ?_) (v := ?_) (by rfl) rfl ?_ ?_
        rotate_left 2
        ·go_simp
         constructor
         ·rfl
         rfl
        refine hK.out _ _ ⟨(blk_cell (blk_alloc BK456.out _) 0).trans rfl, (blk_cell (blk_alloc BK456.out _) 1).trans rfl, (World.cell?_alloc_lt _ _ _ (World.block_lt_of_cell? _ _ (hHeld.2.2.1))).trans (hHeld.2.2.1), (World.cell?_alloc_lt _ _ _ (World.block_lt_of_cell? _ _ (hHeld.2.2.2.1))).trans (hHeld.2.2.2.1), (World.cell?_alloc_lt _ _ _ (World.block_lt_of_cell? _ _ (hHeld.2.2.2.2.1))).trans (hHeld.2.2.2.2.1), (World.cell?_alloc_lt _ _ _ (World.block_lt_of_cell? _ _ (hHeld.2.2.2.2.2))).trans (hHeld.2.2.2.2.2)⟩ (fun hHeld => ?_)
        clear hK K
        refine nm (some 64) ?_
        refine last_ (i := 20) (N := some 65) (tb 23 2097151) rfl rfl (one_of HT_.out (by kernel_rfl)) (by decide) (fun K hK => ?_)
        refine Kd.R_append_step k42 (w0 := w) w.heap.size (by rfl) (.tmp 46) (.tmp 64) 22 42 (.agg #[(.int .i64 0), (.int .i64 0), (.int .i64 0), (.int .i64 0)]) 32 rfl Tryz.underlying22 info42 rfl (by decide) (by omega) u457001 x457001_2 (⟨t469, t471, t473, t475⟩ : S42) [.int .i64 t469, .int .i64 t471, .int .i64 t473, .int .i64 t475] (fun _ => True) (fun _ => False) rfl rfl ?aP (fun _ hk => hk.elim) ?aF ?aO ?aB ?aS ?aL ?_
        (case aP => exact k42_mkM _ _ _ (⟨t469, t471, t473, t475⟩ : S42))
        (case aB => exact bw)
        (case aF => exact (fun _ _ => trivial))
        (case aO => exact (pr HO_457001))
        (case aS => exact (below_size bw))
        (case aL => have := LMc34.out; omega)
        intro v477 w38 ho hb hg hat
        rw [← Ny476.out] at ho
        have n0_ := Aside0.mk (Kd.R_over' (pr HO_33) (Kd.R_typed (pr HO_457001)) (by decide) hg)
        have n1_ := Aside0.mk (blk_grown (pk BK450) hg (Kd.R_ne HO_457001.out BK450.out (by decide)))
        have n2_ := Aside0.mk (blk_grown (pk BK456) hg (Kd.R_ne HO_457001.out BK456.out (by decide)))
        have n3_ := Aside0.mk (Kd.R_over' (pr HO467) (Kd.R_typed (pr HO_457001)) (by decide) hg)
        have n4_ := Aside0.mk (hb)
        have n5_ := Aside0.mk (ho)
        clear HO_33
        clear BK450
        clear BK456
        clear HO467
        clear HB
        clear HO_457001
        have HO_33 := n0_
        have BK450 := n1_
        have BK456 := n2_
        have HO467 := n3_
        have HB := n4_
        have HO478 := n5_
        clear n0_ n1_ n2_ n3_ n4_ n5_
        clear ho hb hg hat
        obtain ⟨Ao39, co39, eo39⟩ := Kd.R_slice HO478.out
        (first | subst eo39 | (injection eo39 with f1_ f2_ f3_; have f4_ := f1_.symm; have f5_ := f3_.symm; clear f1_ f2_ f3_; subst f4_; subst f5_))
        refine hK.out _ _ ?_
        clear hK K
        refine nm (some 65) ?_
        refine pu 21 (some 66) (tb 23 4194303) ?_
        refine last_ (i := 22) (N := none) (tb 23 8388607) rfl rfl (one_of HT_.out (by kernel_rfl)) (by decide) (fun K hK => ?_)
        have hs40 : w38.cell? ⟨gb456, 1, none⟩ = some (u457001) := ec BK456
        have hfs40 := blk_frozen BK456.out 1
        have hns40_0 := NB450_456.out
        have hms40_0 := NB456_450.out
        refine skip_ (w1 := ?_) (by rfl) rfl ?_ ?_
        rotate_left
        ·go_simp
         rfl
        refine hK.out _ _ ?_
        clear hK K
        refine done_ (done_of HT_.out (by kernel_rfl)) ?_
        try go_wp2
        go_roundg k2
        case measure => have := HJ2.out; have := HK2.out; omega
        case rel => exact ⟨(wrap64 (x35_2 + 1)), (x451000_2), (y476), (.slice Ao39 y476.length co39), (rs), H', ⟨by have := HJ2.out; have := HK2.out; omega⟩, ⟨by (with_reducible repeat (first | apply Kd.R_alloc | apply Kd.R_drewN | apply Kd.R_drew)); exact Kd.R_mono (Kd.R_far (p := ⟨gb456, 1, none⟩) (Kd.R_types HO_33.out BK456.out (by decide)) (fun _ hk => hk.2) (.slice Ao39 y476.length co39)) (fun _ hk => trivial)⟩, ⟨by (with_reducible repeat (first | apply Kd.R_alloc | apply Kd.R_drewN | apply Kd.R_drew)); exact Kd.R_mono (Kd.R_far (p := ⟨gb456, 1, none⟩) (Kd.R_types HO478.out BK456.out (by decide)) (fun _ hk => hk.2) (.slice Ao39 y476.length co39)) (fun _ hk => trivial)⟩, ⟨pf BK450⟩, ⟨pz BK456⟩, ⟨bw⟩⟩
       rw [if_neg c25] at H
       have c25b0 : ((t465.length : Int) == 4) = false := beq_eq_false_iff_ne.mpr c25
       have c25b1 : ((t465.length : Int) != 4) = true := bne_iff_ne.mpr c25
       simp only [Option.some.injEq, Prod.mk.injEq] at H
       obtain ⟨rfl, rfl, rfl⟩ := H
       have p464 : 0 ≤ (x35_2 : Int) := of_decide_eq_true asm
       have q464 : x35_2 < (t459.length : Int) := of_decide_eq_true asm
       obtain ⟨ad464, e464, hx464_0⟩ := Kd.at_string (Kd.R_reads' HO_33.out).2.2 x35_2 p464 q464
       cases e464
       replace p464 := eq_true p464
       replace q464 := eq_true q464
       go_wp2_with (first | ((with_reducible refine gc 70 ?_); refine gl (some 40) Tryz.func70 #[.string (rdOf ByteArray.empty t459 x35_2), .int .u8 46] ?_; (with_reducible refine (spec_l1Split.calls k2 (rdOf ByteArray.empty t459 x35_2) 46 t465 _ A24.out).mono ?_); rintro e w41 ⟨v466, rfl, ho0, hb⟩; refine ⟨_, rfl, ?_⟩; replace HO_457001 := rl HO_457001 hb; have HO467 := Aside0.mk (Kd.R_lower (Kd.R_new' ho0 (Kd.R_lt (pr HO_33))) (below_size bw)); replace HO_33 := re HO_33 ho0 hb; replace BK450 := nk BK450 hb; replace HB := bs hb; (try clear hb); (try clear ho0); obtain ⟨Ao42, co42, eo42⟩ := Kd.R_slice HO467.out; subst eo42; have hz43 := z2 BK450))
       refine bodyPost_ret (results_ct rfl _ _ gb450 24 #[.int .i64 0, .slice none 0 0] (0, 0) _ rfl (pz BK450) Tryz.underlying24 rfl (by kernel_rfl)) rfl ?_
       exact ⟨_, rs, by first | exact Kd.R_nil _ _ _ _ _ | exact Kd.N_nil _ _ _ _ _ | exact Kd.V_nil _ _ _ _ _ | exact Kd.Q_nil _ _ _ _ _ | exact Kd.S_nil _ _ _ _ _, bw⟩
      rw [if_neg c21] at H
      have c21b0 := decide_eq_false c21
      clear c21
      obtain ⟨t462, A44, H⟩ := ob H
      (try dsimp only at H)
      by_cases c45 : t462 = true
      ·subst c45
       rw [if_pos rfl] at H
       obtain ⟨t463, A46, H⟩ := ob H
       (try dsimp only at H)
       simp only [Option.some.injEq, Prod.mk.injEq] at H
       obtain ⟨rfl, rfl, rfl⟩ := H
       try go_wp2
       replace HO_33 := Aside0.mk (Kd.R_drew HO_33.out)
       replace HO_457001 := Aside0.mk (Kd.R_drew HO_457001.out)
       replace BK450 := Aside0.mk (blk_drew BK450.out)
       replace BK456 := Aside0.mk (blk_drew BK456.out)
       replace HB := Aside0.mk (below_drew1 HB.out)
       obtain ⟨Ao48, co48, eo48⟩ := Kd.R_slice HO_457001.out
       (first | subst eo48 | (injection eo48 with f1_ f2_ f3_; have f4_ := f1_.symm; have f5_ := f3_.symm; clear f1_ f2_ f3_; subst f4_; subst f5_))
       refine start_ (n := 11) (S := fun w' => w'.cell? ⟨gb456, 0, none⟩ = some (.int .i64 t455) ∧ w'.cell? ⟨gb456, 1, none⟩ = some (.slice Ao48 x457001_2.length co48)) (ds := []) (tb 11 0) (by kernel_rfl) rfl rfl ⟨ec BK456, ec BK456⟩ (fun hHeld => ?_); refine with_tabW spec_pzParse.tab14 spec_pzParse.bits14 (fun HT_ HW_ => ?_)
       generalize wr.drew = w47 at HO_33 HO_457001 BK450 BK456 HB hHeld ⊢
       refine tk 0 (some 68) (tb 11 1) hHeld ?_
       refine tk 1 (some 69) (tb 11 3) hHeld ?_
       refine one_ (i := 2) (N := some 70) (tb 11 7) rfl rfl (one_of HT_.out (by kernel_rfl)) (by decide) (fun K hK => ?_)
       refine go1 Tryz.func35 #[.agg #[.int .i64 t455, .slice Ao48 x457001_2.length co48]] ?_
       with_reducible refine (spec_pzGood.calls k2 t455 _ _ x457001_2 true _ ?side1 ?side2 A44.out).mono ?_
       (case side1 => exact rr HO_457001)
       (case side2 => exact rn HO_457001)
       rintro e w49 ⟨rfl, hb⟩
       refine ⟨_, rfl, ?_⟩
       replace HO_33 := rl HO_33 hb
       replace HO_457001 := rl HO_457001 hb
       replace BK450 := nk BK450 hb
       replace BK456 := nk BK456 hb
       replace HB := bs hb
       (try clear hb)
       refine hK.out _ _ ⟨ec BK456, ec BK456⟩ (fun hHeld => ?_)
       clear hK K
       refine nm (some 70) ?_
       refine pu 3 (some 71) (tb 11 15) ?_
       refine pu 6 (some 74) (tb 11 79) ?_
       refine tk 4 (some 72) (tb 11 95) hHeld ?_
       refine one_ (i := 5) (N := some 73) (tb 11 127) rfl rfl (one_of HT_.out (by kernel_rfl)) (by decide) (fun K hK => ?_)
       refine go1 Tryz.func41 #[.agg #[.int .i64 t455, .slice Ao48 x457001_2.length co48]] ?_
       with_reducible refine (spec_pzText.calls k2 t455 _ _ x457001_2 t463 _ ?side1 ?side2 A46.out).mono ?_
       (case side1 => exact rr HO_457001)
       (case side2 => exact rn HO_457001)
       rintro e w50 ⟨rfl, hb⟩
       refine ⟨_, rfl, ?_⟩
       replace HO_33 := rl HO_33 hb
       replace HO_457001 := rl HO_457001 hb
       replace BK450 := nk BK450 hb
       replace BK456 := nk BK456 hb
       replace HB := bs hb
       (try clear hb)
       refine hK.out _ _ ⟨ec BK456, ec BK456⟩ (fun hHeld => ?_)
       clear hK K
       refine nm (some 73) ?_
       refine pu 7 (some 75) (tb 11 255) ?_
       refine pu 8 (some 76) (tb 11 511) ?_
       refine one_ (i := 9) (N := none) (tb 11 1023) rfl rfl (one_of HT_.out (by kernel_rfl)) (by decide) (fun K hK => ?_)
       have hs51 : w50.cell? ⟨gb450, 0, none⟩ = some (.int .i64 x451000_2) := ec BK450
       have hfs51 := blk_frozen BK450.out 0
       have hns51_1 := NB456_450.out
       have hms51_1 := NB450_456.out
       have hs52 : w50.cell? ⟨gb450, 1, none⟩ = some (.slice none 0 0) := ec BK450
       have hfs52 := blk_frozen BK450.out 1
       have hns52_1 := NB456_450.out
       have hms52_1 := NB450_456.out
       refine skip_ (w1 := ?_) (by rfl) rfl ?_ ?_
       rotate_left
       ·go_simp
        rfl
       refine hK.out _ _ ⟨((cell_far (p := ⟨gb450, _, none⟩) NB456_450.out _).trans (((cell_far (p := ⟨gb450, _, none⟩) NB456_450.out _).trans (hHeld.1)))), ((cell_far (p := ⟨gb450, _, none⟩) NB456_450.out _).trans (((cell_far (p := ⟨gb450, _, none⟩) NB456_450.out _).trans (hHeld.2))))⟩ (fun hHeld => ?_)
       clear hK K
       refine pu 10 (some 3) (tb 11 2047) ?_
       refine done_ (done_of HT_.out (by kernel_rfl)) ?_
       try go_wp2
       refine bodyPost_ret (results_ct rfl _ _ gb450 24 #[.int .i64 t455, .slice Ao48 x457001_2.length co48] (0, 0) _ rfl (pz BK450) Tryz.underlying24 rfl (by kernel_rfl)) rfl ?_
       exact ⟨_, rs, by (with_reducible repeat (first | apply Kd.R_alloc | apply Kd.R_drewN | apply Kd.R_drew)); exact Kd.R_mono (Kd.R_far (p := ⟨gb450, 1, none⟩) (Kd.R_far (p := ⟨gb450, 0, none⟩) (Kd.R_types HO_457001.out BK450.out (by decide)) (fun _ hk => hk.2) (.int .i64 t455)) (fun _ hk => hk.2) (.slice Ao48 x457001_2.length co48)) (fun _ hk => trivial), bw⟩
      replace c45 := Bool.eq_false_iff.mpr c45
      subst c45
      rw [if_neg (show ¬ (false = true) by decide)] at H
      simp only [Option.some.injEq, Prod.mk.injEq] at H
      obtain ⟨rfl, rfl, rfl⟩ := H
      try go_wp2
      replace HO_33 := Aside0.mk (Kd.R_drew HO_33.out)
      replace HO_457001 := Aside0.mk (Kd.R_drew HO_457001.out)
      replace BK450 := Aside0.mk (blk_drew BK450.out)
      replace BK456 := Aside0.mk (blk_drew BK456.out)
      replace HB := Aside0.mk (below_drew1 HB.out)
      obtain ⟨Ao54, co54, eo54⟩ := Kd.R_slice HO_457001.out
      (first | subst eo54 | (injection eo54 with f1_ f2_ f3_; have f4_ := f1_.symm; have f5_ := f3_.symm; clear f1_ f2_ f3_; subst f4_; subst f5_))
      refine start_ (n := 11) (S := fun w' => w'.cell? ⟨gb456, 0, none⟩ = some (.int .i64 t455) ∧ w'.cell? ⟨gb456, 1, none⟩ = some (.slice Ao54 x457001_2.length co54)) (ds := []) (tb 11 0) (by kernel_rfl) rfl rfl ⟨ec BK456, ec BK456⟩ (fun hHeld => ?_); refine with_tabW spec_pzParse.tab14 spec_pzParse.bits14 (fun HT_ HW_ => ?_)
      generalize wr.drew = w53 at HO_33 HO_457001 BK450 BK456 HB hHeld ⊢
      refine tk 0 (some 68) (tb 11 1) hHeld ?_
      refine tk 1 (some 69) (tb 11 3) hHeld ?_
      refine one_ (i := 2) (N := some 70) (tb 11 7) rfl rfl (one_of HT_.out (by kernel_rfl)) (by decide) (fun K hK => ?_)
      refine go1 Tryz.func35 #[.agg #[.int .i64 t455, .slice Ao54 x457001_2.length co54]] ?_
      with_reducible refine (spec_pzGood.calls k2 t455 _ _ x457001_2 false _ ?side1 ?side2 A44.out).mono ?_
      (case side1 => exact rr HO_457001)
      (case side2 => exact rn HO_457001)
      rintro e w55 ⟨rfl, hb⟩
      refine ⟨_, rfl, ?_⟩
      replace HO_33 := rl HO_33 hb
      replace HO_457001 := rl HO_457001 hb
      replace BK450 := nk BK450 hb
      replace BK456 := nk BK456 hb
      replace HB := bs hb
      (try clear hb)
      refine hK.out _ _ ⟨ec BK456, ec BK456⟩ (fun hHeld => ?_)
      clear hK K
      refine nm (some 70) ?_
      refine pu 3 (some 71) (tb 11 15) ?_
      refine pure_ (i := 4) (N := some 72) (v := undef) (a' := ?_) (tb 11 31) rfl rfl (any_of HT_.out (by kernel_rfl)) (fun _ _ _ h => h) (Or.inr ⟨by rfl, rfl⟩) ?_ ?_
      rotate_left
      ·simp only [Act.put, List.setIfInBounds_toArray, List.set_cons_zero, List.set_cons_succ, i64_w, i32_w]
       rfl
      refine pure_ (i := 5) (N := some 73) (v := undef) (a' := ?_) (tb 11 63) rfl rfl (any_of HT_.out (by kernel_rfl)) (fun _ _ _ h => h) (Or.inr ⟨by rfl, rfl⟩) ?_ ?_
      rotate_left
      ·simp only [Act.put, List.setIfInBounds_toArray, List.set_cons_zero, List.set_cons_succ, i64_w, i32_w]
       rfl
      refine pure_ (i := 6) (N := some 74) (v := undef) (a' := ?_) (tb 11 127) rfl rfl (any_of HT_.out (by kernel_rfl)) (fun _ _ _ h => h) (Or.inr ⟨by rfl, rfl⟩) ?_ ?_
      rotate_left
      ·simp only [Act.put, List.setIfInBounds_toArray, List.set_cons_zero, List.set_cons_succ, i64_w, i32_w]
       rfl
      refine pure_ (i := 7) (N := some 75) (v := undef) (a' := ?_) (tb 11 255) rfl rfl (any_of HT_.out (by kernel_rfl)) (fun _ _ _ h => h) (Or.inr ⟨by rfl, rfl⟩) ?_ ?_
      rotate_left
      ·simp only [Act.put, List.setIfInBounds_toArray, List.set_cons_zero, List.set_cons_succ, i64_w, i32_w]
       rfl
      refine pu 8 (some 76) (tb 11 511) ?_
      refine one_ (i := 9) (N := none) (tb 11 1023) rfl rfl (one_of HT_.out (by kernel_rfl)) (by decide) (fun K hK => ?_)
      have hs56 : w55.cell? ⟨gb450, 0, none⟩ = some (.int .i64 x451000_2) := ec BK450
      have hfs56 := blk_frozen BK450.out 0
      have hns56_1 := NB456_450.out
      have hms56_1 := NB450_456.out
      have hs57 : w55.cell? ⟨gb450, 1, none⟩ = some (.slice none 0 0) := ec BK450
      have hfs57 := blk_frozen BK450.out 1
      have hns57_1 := NB456_450.out
      have hms57_1 := NB450_456.out
      refine skip_ (w1 := ?_) (by rfl) rfl ?_ ?_
      rotate_left
      ·go_simp
       rfl
      refine hK.out _ _ ⟨((cell_far (p := ⟨gb450, _, none⟩) NB456_450.out _).trans (((cell_far (p := ⟨gb450, _, none⟩) NB456_450.out _).trans (hHeld.1)))), ((cell_far (p := ⟨gb450, _, none⟩) NB456_450.out _).trans (((cell_far (p := ⟨gb450, _, none⟩) NB456_450.out _).trans (hHeld.2))))⟩ (fun hHeld => ?_)
      clear hK K
      refine pu 10 (some 3) (tb 11 2047) ?_
      refine done_ (done_of HT_.out (by kernel_rfl)) ?_
      try go_wp2
      refine bodyPost_ret (results_ct rfl _ _ gb450 24 #[.int .i64 t455, .slice Ao54 x457001_2.length co54] (0, 0) _ rfl (pz BK450) Tryz.underlying24 rfl (by kernel_rfl)) rfl ?_
      exact ⟨_, rs, by (with_reducible repeat (first | apply Kd.R_alloc | apply Kd.R_drewN | apply Kd.R_drew)); exact Kd.R_mono (Kd.R_far (p := ⟨gb450, 1, none⟩) (Kd.R_far (p := ⟨gb450, 0, none⟩) (Kd.R_types HO_457001.out BK450.out (by decide)) (fun _ hk => hk.2) (.int .i64 t455)) (fun _ hk => hk.2) (.slice Ao54 x457001_2.length co54)) (fun _ hk => trivial), bw⟩
   rw [if_neg c13] at H
   have c13b0 := decide_eq_false c13
   have c13b1 : decide (0 < (rdOf ByteArray.empty t451 1).size) = false := decide_eq_false (by omega)
   clear c13
   obtain ⟨t479, A58, H⟩ := ob H
   (try dsimp only at H)
   by_cases c59 : t479 = true
   ·subst c59
    rw [if_pos rfl] at H
    obtain ⟨t480, A60, H⟩ := ob H
    (try dsimp only at H)
    simp only [Option.some.injEq, Prod.mk.injEq] at H
    obtain ⟨rfl, rfl, rfl⟩ := H
    obtain ⟨Ao61, co61, eo61⟩ := Kd.R_slice HO_4.out
    subst eo61
    have p454 : 0 ≤ (0 : Int) := (by omega)
    have q454 : 0 < (t451.length : Int) := of_decide_eq_true asm
    obtain ⟨ad454, e454, hx454_0⟩ := Kd.at_string (Kd.R_reads' HO_4.out).2.2 0 p454 q454
    cases e454
    have qi454 : (0 < t451.length) = True := eq_true (by omega)
    (try rw [show ((0 : Int)).toNat = 0 from rfl] at hx454_0)
    (try rw [Addr.add_zero'] at hx454_0)
    replace p454 := eq_true p454
    replace q454 := eq_true q454
    try go_wp2_with (first | ((with_reducible refine gc 71 ?_); refine gl (some 23) Tryz.func71 #[.string (rdOf ByteArray.empty t451 0)] ?_; (with_reducible refine (spec_l1Read.calls kj2 (rdOf ByteArray.empty t451 0) t455 _ A11.out).mono ?_); rintro e w' ⟨rfl, ⟨nd, rfl⟩⟩; refine ⟨_, rfl, ?_⟩; (try (rw [drewN_self wc]; generalize hq_ : World.drewN wc _ = wc; have n0_ : Aside0 (Kd.R Kd.string 9 wc w.heap.size (fun _ => True) (.slice (some ad454) t451.length co61) t451) := ⟨by rw [← hq_]; exact (pr HO_4)⟩; have n1_ : Aside0 (wc.heap[gb450]? = some (.cells #[.int .i64 0, .slice none 0 0] 24 (0, 0))) := ⟨by rw [← hq_]; exact (pk BK450)⟩; have n2_ : Aside0 (Below w.heap.size w wc) := ⟨by rw [← hq_]; exact bw⟩; clear HO_4 BK450 HB hq_; have HO_4 := n0_; have BK450 := n1_; have HB := n2_; clear n0_ n1_ n2_))) | ((with_reducible refine gd 5 ?_); (try (refine gate_guard (by rfl) ?_; dsimp only)); refine bx 5 24 #[.int .i64 0, .slice none 0 0] ?_; intro gb456 hg w62 hbox hb; replace HO_4 := rl HO_4 hb; have BK456 := hbox; have GW456 := gs hg; have GE456 := gs hg; replace HB := bs hb; have ⟨NB450_456, NB456_450⟩ := nn BK450 hg; replace BK450 := nk BK450 hb; clear hb hbox hg; have hnb63 := nb NB456_450; have hz64 := z2 BK456; have p457 : 0 ≤ (1 : Int) := (by omega); have q457 : 1 < (t451.length : Int) := of_decide_eq_true asm; obtain ⟨ad457, e457, hx457_0⟩ := Kd.at_string (Kd.R_reads' HO_4.out).2.2 1 p457 q457; obtain rfl : ad454 = ad457 := (by injection e457); (try simp only [show (1 : Int).toNat = 1 from rfl, Nat.reduceMul, Nat.reduceEqDiff, Go.Addr.add, ↓reduceIte] at hx457_0); have qi457 : (1 < t451.length) = True := eq_true (by omega); (try rw [show ((1 : Int)).toNat = 1 from rfl] at hx457_0); have hn457_0 : ad454.block ≠ gb456 := Kd.own_blk (Kd.R_ne HO_4.out BK456.out (by decide)); have hn457_1 : ad454.block ≠ gb456 := Kd.own_blk (Kd.R_ne HO_4.out BK456.out (by decide)); replace hx457_0 := (cell_far (p := ⟨gb456, 0, none⟩) (by first | (rw [add_block]; exact hn457_0) | (show (Addr.add _ _).block ≠ _; rw [add_block]; exact hn457_0) | exact hn457_0) (.int .i64 t455)).trans hx457_0; replace hx457_0 := (cell_far (p := ⟨gb456, 1, none⟩) (by first | (rw [add_block]; exact hn457_1) | (show (Addr.add _ _).block ≠ _; rw [add_block]; exact hn457_1) | exact hn457_1) (.slice none 0 0)).trans hx457_0; clear hn457_0; clear hn457_1; replace p457 := eq_true p457; replace q457 := eq_true q457))
    have n0_ : Aside0 (Kd.R Kd.string 9 ((w62.setCell ⟨gb456, 0, none⟩ (.int .i64 t455)).setCell ⟨gb456, 1, none⟩ (.slice none 0 0)) w.heap.size (fun _ => True) (.slice (some ad454) t451.length co61) t451) := ⟨by (with_reducible repeat (first | apply Kd.R_alloc | apply Kd.R_drewN | apply Kd.R_drew)); exact Kd.R_mono (Kd.R_far (p := ⟨gb456, 1, none⟩) (Kd.R_far (p := ⟨gb456, 0, none⟩) (Kd.R_types HO_4.out BK456.out (by decide)) (fun _ hk => hk.2) (.int .i64 t455)) (fun _ hk => hk.2) (.slice none 0 0)) (fun _ hk => trivial)⟩
    have n1_ : Aside0 (((w62.setCell ⟨gb456, 0, none⟩ (.int .i64 t455)).setCell ⟨gb456, 1, none⟩ (.slice none 0 0)).heap[gb450]? = some (.cells #[.int .i64 0, .slice none 0 0] 24 (0, 0))) := ⟨pf BK450⟩
    have n2_ : Aside0 (((w62.setCell ⟨gb456, 0, none⟩ (.int .i64 t455)).setCell ⟨gb456, 1, none⟩ (.slice none 0 0)).heap[gb456]? = some (.cells #[.int .i64 t455, .slice none 0 0] 24 (0, 0))) := ⟨pz BK456⟩
    have n3_ : Aside0 (Below w.heap.size w ((w62.setCell ⟨gb456, 0, none⟩ (.int .i64 t455)).setCell ⟨gb456, 1, none⟩ (.slice none 0 0))) := ⟨bw⟩
    (try clear HO_4)
    (try clear BK450)
    (try clear BK456)
    (try clear HB)
    generalize ((w62.setCell ⟨gb456, 0, none⟩ (.int .i64 t455)).setCell ⟨gb456, 1, none⟩ (.slice none 0 0)) = w65 at n0_ n1_ n2_ n3_ ⊢
    have HO_4 := n0_
    have BK450 := n1_
    have BK456 := n2_
    have HB := n3_
    clear n0_ n1_ n2_ n3_
    replace HO_4 := Aside0.mk (Kd.R_drew HO_4.out)
    replace BK450 := Aside0.mk (blk_drew BK450.out)
    replace BK456 := Aside0.mk (blk_drew BK456.out)
    replace HB := Aside0.mk (below_drew1 HB.out)
    refine start_ (n := 11) (S := fun w' => w'.cell? ⟨gb456, 0, none⟩ = some (.int .i64 t455) ∧ w'.cell? ⟨gb456, 1, none⟩ = some (.slice none 0 0)) (ds := []) (tb 11 0) (by kernel_rfl) rfl rfl ⟨ec BK456, ec BK456⟩ (fun hHeld => ?_); refine with_tabW spec_pzParse.tab14 spec_pzParse.bits14 (fun HT_ HW_ => ?_)
    generalize w65.drew = w66 at HO_4 BK450 BK456 HB hHeld ⊢
    refine tk 0 (some 68) (tb 11 1) hHeld ?_
    refine tk 1 (some 69) (tb 11 3) hHeld ?_
    refine one_ (i := 2) (N := some 70) (tb 11 7) rfl rfl (one_of HT_.out (by kernel_rfl)) (by decide) (fun K hK => ?_)
    refine go1 Tryz.func35 #[.agg #[.int .i64 t455, .slice none 0 0]] ?_
    refine (spec_pzGood.calls kj2 t455 _ _ ([] : List (S42)) true _ ?side1 ?side2 A58.out).mono ?_
    (case side1 => exact Kd.C_nil _ _)
    (case side2 => exact Nat.le_refl _)
    rintro e w67 ⟨rfl, hb⟩
    refine ⟨_, rfl, ?_⟩
    replace HO_4 := rl HO_4 hb
    replace BK450 := nk BK450 hb
    replace BK456 := nk BK456 hb
    replace HB := bs hb
    (try clear hb)
    refine hK.out _ _ ⟨ec BK456, ec BK456⟩ (fun hHeld => ?_)
    clear hK K
    refine nm (some 70) ?_
    refine pu 3 (some 71) (tb 11 15) ?_
    refine pu 6 (some 74) (tb 11 79) ?_
    refine tk 4 (some 72) (tb 11 95) hHeld ?_
    refine one_ (i := 5) (N := some 73) (tb 11 127) rfl rfl (one_of HT_.out (by kernel_rfl)) (by decide) (fun K hK => ?_)
    refine go1 Tryz.func41 #[.agg #[.int .i64 t455, .slice none 0 0]] ?_
    refine (spec_pzText.calls kj2 t455 _ _ ([] : List (S42)) t480 _ ?side1 ?side2 A60.out).mono ?_
    (case side1 => exact Kd.C_nil _ _)
    (case side2 => exact Nat.le_refl _)
    rintro e w68 ⟨rfl, hb⟩
    refine ⟨_, rfl, ?_⟩
    replace HO_4 := rl HO_4 hb
    replace BK450 := nk BK450 hb
    replace BK456 := nk BK456 hb
    replace HB := bs hb
    (try clear hb)
    refine hK.out _ _ ⟨ec BK456, ec BK456⟩ (fun hHeld => ?_)
    clear hK K
    refine nm (some 73) ?_
    refine pu 7 (some 75) (tb 11 255) ?_
    refine pu 8 (some 76) (tb 11 511) ?_
    refine one_ (i := 9) (N := none) (tb 11 1023) rfl rfl (one_of HT_.out (by kernel_rfl)) (by decide) (fun K hK => ?_)
    have hs69 : w68.cell? ⟨gb450, 0, none⟩ = some (.int .i64 0) := ec BK450
    have hfs69 := blk_frozen BK450.out 0
    have hns69_1 := NB456_450.out
    have hms69_1 := NB450_456.out
    have hs70 : w68.cell? ⟨gb450, 1, none⟩ = some (.slice none 0 0) := ec BK450
    have hfs70 := blk_frozen BK450.out 1
    have hns70_1 := NB456_450.out
    have hms70_1 := NB450_456.out
    refine skip_ (w1 := ?_) (by rfl) rfl ?_ ?_
    rotate_left
    ·go_simp
     rfl
    refine hK.out _ _ ⟨((cell_far (p := ⟨gb450, _, none⟩) NB456_450.out _).trans (((cell_far (p := ⟨gb450, _, none⟩) NB456_450.out _).trans (hHeld.1)))), ((cell_far (p := ⟨gb450, _, none⟩) NB456_450.out _).trans (((cell_far (p := ⟨gb450, _, none⟩) NB456_450.out _).trans (hHeld.2))))⟩ (fun hHeld => ?_)
    clear hK K
    refine pu 10 (some 3) (tb 11 2047) ?_
    refine done_ (done_of HT_.out (by kernel_rfl)) ?_
    try go_wp2
    refine bodyPost_ret (results_ct rfl _ _ gb450 24 #[.int .i64 t455, .slice none 0 0] (0, 0) _ rfl (pz BK450) Tryz.underlying24 rfl (by kernel_rfl)) rfl ?_
    exact ⟨_, rs, by first | exact Kd.R_nil _ _ _ _ _ | exact Kd.N_nil _ _ _ _ _ | exact Kd.V_nil _ _ _ _ _ | exact Kd.Q_nil _ _ _ _ _ | exact Kd.S_nil _ _ _ _ _, bw⟩
   replace c59 := Bool.eq_false_iff.mpr c59
   subst c59
   rw [if_neg (show ¬ (false = true) by decide)] at H
   simp only [Option.some.injEq, Prod.mk.injEq] at H
   obtain ⟨rfl, rfl, rfl⟩ := H
   obtain ⟨Ao71, co71, eo71⟩ := Kd.R_slice HO_4.out
   subst eo71
   have p454 : 0 ≤ (0 : Int) := (by omega)
   have q454 : 0 < (t451.length : Int) := of_decide_eq_true asm
   obtain ⟨ad454, e454, hx454_0⟩ := Kd.at_string (Kd.R_reads' HO_4.out).2.2 0 p454 q454
   cases e454
   have qi454 : (0 < t451.length) = True := eq_true (by omega)
   (try rw [show ((0 : Int)).toNat = 0 from rfl] at hx454_0)
   (try rw [Addr.add_zero'] at hx454_0)
   replace p454 := eq_true p454
   replace q454 := eq_true q454
   try go_wp2_with (first | ((with_reducible refine gc 71 ?_); refine gl (some 23) Tryz.func71 #[.string (rdOf ByteArray.empty t451 0)] ?_; (with_reducible refine (spec_l1Read.calls kj2 (rdOf ByteArray.empty t451 0) t455 _ A11.out).mono ?_); rintro e w' ⟨rfl, ⟨nd, rfl⟩⟩; refine ⟨_, rfl, ?_⟩; (try (rw [drewN_self wc]; generalize hq_ : World.drewN wc _ = wc; have n0_ : Aside0 (Kd.R Kd.string 9 wc w.heap.size (fun _ => True) (.slice (some ad454) t451.length co71) t451) := ⟨by rw [← hq_]; exact (pr HO_4)⟩; have n1_ : Aside0 (wc.heap[gb450]? = some (.cells #[.int .i64 0, .slice none 0 0] 24 (0, 0))) := ⟨by rw [← hq_]; exact (pk BK450)⟩; have n2_ : Aside0 (Below w.heap.size w wc) := ⟨by rw [← hq_]; exact bw⟩; clear HO_4 BK450 HB hq_; have HO_4 := n0_; have BK450 := n1_; have HB := n2_; clear n0_ n1_ n2_))) | ((with_reducible refine gd 5 ?_); (try (refine gate_guard (by rfl) ?_; dsimp only)); refine bx 5 24 #[.int .i64 0, .slice none 0 0] ?_; intro gb456 hg w72 hbox hb; replace HO_4 := rl HO_4 hb; have BK456 := hbox; have GW456 := gs hg; have GE456 := gs hg; replace HB := bs hb; have ⟨NB450_456, NB456_450⟩ := nn BK450 hg; replace BK450 := nk BK450 hb; clear hb hbox hg; have hnb73 := nb NB456_450; have hz74 := z2 BK456; have p457 : 0 ≤ (1 : Int) := (by omega); have q457 : 1 < (t451.length : Int) := of_decide_eq_true asm; obtain ⟨ad457, e457, hx457_0⟩ := Kd.at_string (Kd.R_reads' HO_4.out).2.2 1 p457 q457; obtain rfl : ad454 = ad457 := (by injection e457); (try simp only [show (1 : Int).toNat = 1 from rfl, Nat.reduceMul, Nat.reduceEqDiff, Go.Addr.add, ↓reduceIte] at hx457_0); have qi457 : (1 < t451.length) = True := eq_true (by omega); (try rw [show ((1 : Int)).toNat = 1 from rfl] at hx457_0); have hn457_0 : ad454.block ≠ gb456 := Kd.own_blk (Kd.R_ne HO_4.out BK456.out (by decide)); have hn457_1 : ad454.block ≠ gb456 := Kd.own_blk (Kd.R_ne HO_4.out BK456.out (by decide)); replace hx457_0 := (cell_far (p := ⟨gb456, 0, none⟩) (by first | (rw [add_block]; exact hn457_0) | (show (Addr.add _ _).block ≠ _; rw [add_block]; exact hn457_0) | exact hn457_0) (.int .i64 t455)).trans hx457_0; replace hx457_0 := (cell_far (p := ⟨gb456, 1, none⟩) (by first | (rw [add_block]; exact hn457_1) | (show (Addr.add _ _).block ≠ _; rw [add_block]; exact hn457_1) | exact hn457_1) (.slice none 0 0)).trans hx457_0; clear hn457_0; clear hn457_1; replace p457 := eq_true p457; replace q457 := eq_true q457))
   have n0_ : Aside0 (Kd.R Kd.string 9 ((w72.setCell ⟨gb456, 0, none⟩ (.int .i64 t455)).setCell ⟨gb456, 1, none⟩ (.slice none 0 0)) w.heap.size (fun _ => True) (.slice (some ad454) t451.length co71) t451) := ⟨by (with_reducible repeat (first | apply Kd.R_alloc | apply Kd.R_drewN | apply Kd.R_drew)); exact Kd.R_mono (Kd.R_far (p := ⟨gb456, 1, none⟩) (Kd.R_far (p := ⟨gb456, 0, none⟩) (Kd.R_types HO_4.out BK456.out (by decide)) (fun _ hk => hk.2) (.int .i64 t455)) (fun _ hk => hk.2) (.slice none 0 0)) (fun _ hk => trivial)⟩
   have n1_ : Aside0 (((w72.setCell ⟨gb456, 0, none⟩ (.int .i64 t455)).setCell ⟨gb456, 1, none⟩ (.slice none 0 0)).heap[gb450]? = some (.cells #[.int .i64 0, .slice none 0 0] 24 (0, 0))) := ⟨pf BK450⟩
   have n2_ : Aside0 (((w72.setCell ⟨gb456, 0, none⟩ (.int .i64 t455)).setCell ⟨gb456, 1, none⟩ (.slice none 0 0)).heap[gb456]? = some (.cells #[.int .i64 t455, .slice none 0 0] 24 (0, 0))) := ⟨pz BK456⟩
   have n3_ : Aside0 (Below w.heap.size w ((w72.setCell ⟨gb456, 0, none⟩ (.int .i64 t455)).setCell ⟨gb456, 1, none⟩ (.slice none 0 0))) := ⟨bw⟩
   (try clear HO_4)
   (try clear BK450)
   (try clear BK456)
   (try clear HB)
   generalize ((w72.setCell ⟨gb456, 0, none⟩ (.int .i64 t455)).setCell ⟨gb456, 1, none⟩ (.slice none 0 0)) = w75 at n0_ n1_ n2_ n3_ ⊢
   have HO_4 := n0_
   have BK450 := n1_
   have BK456 := n2_
   have HB := n3_
   clear n0_ n1_ n2_ n3_
   replace HO_4 := Aside0.mk (Kd.R_drew HO_4.out)
   replace BK450 := Aside0.mk (blk_drew BK450.out)
   replace BK456 := Aside0.mk (blk_drew BK456.out)
   replace HB := Aside0.mk (below_drew1 HB.out)
   refine start_ (n := 11) (S := fun w' => w'.cell? ⟨gb456, 0, none⟩ = some (.int .i64 t455) ∧ w'.cell? ⟨gb456, 1, none⟩ = some (.slice none 0 0)) (ds := []) (tb 11 0) (by kernel_rfl) rfl rfl ⟨ec BK456, ec BK456⟩ (fun hHeld => ?_); refine with_tabW spec_pzParse.tab14 spec_pzParse.bits14 (fun HT_ HW_ => ?_)
   generalize w75.drew = w76 at HO_4 BK450 BK456 HB hHeld ⊢
   refine tk 0 (some 68) (tb 11 1) hHeld ?_
   refine tk 1 (some 69) (tb 11 3) hHeld ?_
   refine one_ (i := 2) (N := some 70) (tb 11 7) rfl rfl (one_of HT_.out (by kernel_rfl)) (by decide) (fun K hK => ?_)
   refine go1 Tryz.func35 #[.agg #[.int .i64 t455, .slice none 0 0]] ?_
   refine (spec_pzGood.calls kj2 t455 _ _ ([] : List (S42)) false _ ?side1 ?side2 A58.out).mono ?_
   (case side1 => exact Kd.C_nil _ _)
   (case side2 => exact Nat.le_refl _)
   rintro e w77 ⟨rfl, hb⟩
   refine ⟨_, rfl, ?_⟩
   replace HO_4 := rl HO_4 hb
   replace BK450 := nk BK450 hb
   replace BK456 := nk BK456 hb
   replace HB := bs hb
   (try clear hb)
   refine hK.out _ _ ⟨ec BK456, ec BK456⟩ (fun hHeld => ?_)
   clear hK K
   refine nm (some 70) ?_
   refine pu 3 (some 71) (tb 11 15) ?_
   refine pure_ (i := 4) (N := some 72) (v := undef) (a' := ?_) (tb 11 31) rfl rfl (any_of HT_.out (by kernel_rfl)) (fun _ _ _ h => h) (Or.inr ⟨by rfl, rfl⟩) ?_ ?_
   rotate_left
   ·simp only [Act.put, List.setIfInBounds_toArray, List.set_cons_zero, List.set_cons_succ, i64_w, i32_w]
    rfl
   refine pure_ (i := 5) (N := some 73) (v := undef) (a' := ?_) (tb 11 63) rfl rfl (any_of HT_.out (by kernel_rfl)) (fun _ _ _ h => h) (Or.inr ⟨by rfl, rfl⟩) ?_ ?_
   rotate_left
   ·simp only [Act.put, List.setIfInBounds_toArray, List.set_cons_zero, List.set_cons_succ, i64_w, i32_w]
    rfl
   refine pure_ (i := 6) (N := some 74) (v := undef) (a' := ?_) (tb 11 127) rfl rfl (any_of HT_.out (by kernel_rfl)) (fun _ _ _ h => h) (Or.inr ⟨by rfl, rfl⟩) ?_ ?_
   rotate_left
   ·simp only [Act.put, List.setIfInBounds_toArray, List.set_cons_zero, List.set_cons_succ, i64_w, i32_w]
    rfl
   refine pure_ (i := 7) (N := some 75) (v := undef) (a' := ?_) (tb 11 255) rfl rfl (any_of HT_.out (by kernel_rfl)) (fun _ _ _ h => h) (Or.inr ⟨by rfl, rfl⟩) ?_ ?_
   rotate_left
   ·simp only [Act.put, List.setIfInBounds_toArray, List.set_cons_zero, List.set_cons_succ, i64_w, i32_w]
    rfl
   refine pu 8 (some 76) (tb 11 511) ?_
   refine one_ (i := 9) (N := none) (tb 11 1023) rfl rfl (one_of HT_.out (by kernel_rfl)) (by decide) (fun K hK => ?_)
   have hs78 : w77.cell? ⟨gb450, 0, none⟩ = some (.int .i64 0) := ec BK450
   have hfs78 := blk_frozen BK450.out 0
   have hns78_1 := NB456_450.out
   have hms78_1 := NB450_456.out
   have hs79 : w77.cell? ⟨gb450, 1, none⟩ = some (.slice none 0 0) := ec BK450
   have hfs79 := blk_frozen BK450.out 1
   have hns79_1 := NB456_450.out
   have hms79_1 := NB450_456.out
   refine skip_ (w1 := ?_) (by rfl) rfl ?_ ?_
   rotate_left
   ·go_simp
    rfl
   refine hK.out _ _ ⟨((cell_far (p := ⟨gb450, _, none⟩) NB456_450.out _).trans (((cell_far (p := ⟨gb450, _, none⟩) NB456_450.out _).trans (hHeld.1)))), ((cell_far (p := ⟨gb450, _, none⟩) NB456_450.out _).trans (((cell_far (p := ⟨gb450, _, none⟩) NB456_450.out _).trans (hHeld.2))))⟩ (fun hHeld => ?_)
   clear hK K
   refine pu 10 (some 3) (tb 11 2047) ?_
   refine done_ (done_of HT_.out (by kernel_rfl)) ?_
   try go_wp2
   refine bodyPost_ret (results_ct rfl _ _ gb450 24 #[.int .i64 t455, .slice none 0 0] (0, 0) _ rfl (pz BK450) Tryz.underlying24 rfl (by kernel_rfl)) rfl ?_
   exact ⟨_, rs, by first | exact Kd.R_nil _ _ _ _ _ | exact Kd.N_nil _ _ _ _ _ | exact Kd.V_nil _ _ _ _ _ | exact Kd.Q_nil _ _ _ _ _ | exact Kd.S_nil _ _ _ _ _, bw⟩
end Go.Proofs.YtfaakdokcldnkaaGreatDoor.PFnRowsGuessedOfAll
