-- Laid by xprint, a program of this session that runs over the kit's print.
import Derived.Test.YthblgfiijakjlaaDoorPFnExactParsePuzzlex0
import Derived.Test.YthblgfiijakjlaaDoorPFnExactParsePuzzlex1
import Derived.Test.YthblgfiijakjlaaDoorPFnExactParsePuzzlex2
import Derived.Test.YthblgfiijakjlaaDoorPFnExactParsePuzzlex3
namespace Go.Proofs.YthblgfiijakjlaaDoor.PFnExactParsePuzzle
open Go.RowKit Go.Proofs.YthblgfiijakjlaaDoorW.PrintWords Go.Proofs.YthblgfiijakjlaaDoorW.PrintLast Go.Proofs.YthblgfiijakjlaaDoorW.PrintMore Go.Proofs.YthblgfiijakjlaaDoor.Sq
attribute [local go_sem] max2_int min2_int max_two min_two max_three min_three max_four min_four   -- for this text's walks alone
set_option linter.unusedVariables false
set_option linter.unusedSimpArgs false

/-! ### spec_pzParse: function 9 -/
mutual
def spec_pzParse.j0 : Nat → ByteArray → List ByteArray → Bool → Option (Int × (List (S40)) × Bool)
  | 0, _, _, _ => none
  | k + 1, x0, x4, x18 => if x18 = true then (some (0, ([] : List (S40)), false)) else (if 0 < (x4.length : Int) then ((spec_l1Read.f k (rdOf ByteArray.empty x4 0)).bind fun t143 => (if 1 < (x4.length : Int) then (if ((rdOf ByteArray.empty x4 1).size : Int) > 0 then ((spec_l1Split.f k (rdOf ByteArray.empty x4 1) 44).bind fun t147 => (spec_pzParse.l0 k x0 t147 (t147.length : Int) 0 t143 ([] : List (S40)))) else ((spec_pzGood.f k t143 ([] : List (S40))).bind fun t167 => (if t167 = true then ((spec_pzText.f k t143 ([] : List (S40))).bind fun t168 => (some (t143, ([] : List (S40)), (t168.toList == x0.toList)))) else (some (t143, ([] : List (S40)), false))))) else (none))) else (none))
def spec_pzParse.l0 : Nat → ByteArray → List ByteArray → Int → Int → Int → List (S40) → Option (Int × (List (S40)) × Bool)
  | 0, _, _, _, _, _, _ => none
  | k + 1, x0, x33, x34, x35, x145000, x145001 => if x35 < x34 then (if 0 ≤ x35 then (if x35 < (x33.length : Int) then ((spec_l1Split.f k (rdOf ByteArray.empty x33 x35) 46).bind fun t153 => (if (t153.length : Int) = 4 then (if 0 < (t153.length : Int) then ((spec_l1Read.f k (rdOf ByteArray.empty t153 0)).bind fun t157 => (if 1 < (t153.length : Int) then ((spec_l1Read.f k (rdOf ByteArray.empty t153 1)).bind fun t159 => (if 2 < (t153.length : Int) then ((spec_l1Read.f k (rdOf ByteArray.empty t153 2)).bind fun t161 => (if 3 < (t153.length : Int) then ((spec_l1Read.f k (rdOf ByteArray.empty t153 3)).bind fun t163 => (if x145001.length < 4398046511104 then (spec_pzParse.l0 k x0 x33 x34 (wrap64 (x35 + 1)) x145000 (x145001 ++ [(⟨t157, t159, t161, t163⟩ : S40)])) else (none))) else (none))) else (none))) else (none))) else (none)) else (some (0, ([] : List (S40)), false)))) else (none)) else (none)) else ((spec_pzGood.f k x145000 x145001).bind fun t150 => (if t150 = true then ((spec_pzText.f k x145000 x145001).bind fun t151 => (some (x145000, x145001, (t151.toList == x0.toList)))) else (some (x145000, x145001, false))))
end
def spec_pzParse.f (k : Nat) (a0 : ByteArray) : Option (Int × (List (S40)) × Bool) := (spec_l1Split.f k a0 58).bind fun t139 => (if (a0.size : Int) > 120 then (spec_pzParse.j0 k a0 t139 true) else (spec_pzParse.j0 k a0 t139 ((t139.length : Int) != 2)))
theorem spec_pzParse.mono_l : ∀ k, (∀ y0 y1 y2, LeO (spec_pzParse.j0 k y0 y1 y2) (spec_pzParse.j0 (k + 1) y0 y1 y2)) ∧ (∀ y0 y1 y2 y3 y4 y5, LeO (spec_pzParse.l0 k y0 y1 y2 y3 y4 y5) (spec_pzParse.l0 (k + 1) y0 y1 y2 y3 y4 y5))
  | 0 => ⟨fun _ _ _ r h => by simp [spec_pzParse.j0] at h, fun _ _ _ _ _ _ r h => by simp [spec_pzParse.l0] at h⟩
  | k + 1 => by
    obtain ⟨ih0, ih1⟩ := spec_pzParse.mono_l k
    refine ⟨?_, ?_⟩
    · intro y0 y1 y2
      unfold spec_pzParse.j0
      repeat' first
      | (with_reducible exact ih0 _ _ _)
      | (with_reducible exact ih1 _ _ _ _ _ _)
      | (with_reducible exact spec_l1Read.mono _ _)
      | (with_reducible exact spec_l1Split.mono _ _ _)
      | (with_reducible exact spec_pzGood.mono _ _ _)
      | (with_reducible exact spec_pzText.mono _ _ _)
      | (with_reducible exact LeO.refl _)
      | (with_reducible exact LeO.none _)
      | (with_reducible refine LeO.ite ?_ ?_)
      | (with_reducible refine LeO.bind ?_ (fun _ => ?_))
      | exact ih0 _ _ _
      | exact ih1 _ _ _ _ _ _
      | exact spec_l1Read.mono _ _
      | exact spec_l1Split.mono _ _ _
      | exact spec_pzGood.mono _ _ _
      | exact spec_pzText.mono _ _ _
      | exact LeO.none _
      | refine LeO.ite ?_ ?_
      | refine LeO.bind ?_ (fun _ => ?_)
    · intro y0 y1 y2 y3 y4 y5
      unfold spec_pzParse.l0
      repeat' first
      | (with_reducible exact ih0 _ _ _)
      | (with_reducible exact ih1 _ _ _ _ _ _)
      | (with_reducible exact spec_l1Read.mono _ _)
      | (with_reducible exact spec_l1Split.mono _ _ _)
      | (with_reducible exact spec_pzGood.mono _ _ _)
      | (with_reducible exact spec_pzText.mono _ _ _)
      | (with_reducible exact LeO.refl _)
      | (with_reducible exact LeO.none _)
      | (with_reducible refine LeO.ite ?_ ?_)
      | (with_reducible refine LeO.bind ?_ (fun _ => ?_))
      | exact ih0 _ _ _
      | exact ih1 _ _ _ _ _ _
      | exact spec_l1Read.mono _ _
      | exact spec_l1Split.mono _ _ _
      | exact spec_pzGood.mono _ _ _
      | exact spec_pzText.mono _ _ _
      | exact LeO.none _
      | refine LeO.ite ?_ ?_
      | refine LeO.bind ?_ (fun _ => ?_)
theorem spec_pzParse.mono : ∀ a0 k, LeO (spec_pzParse.f k a0) (spec_pzParse.f (k + 1) a0) := by
  intro a0 k
  obtain ⟨ih0, ih1⟩ := spec_pzParse.mono_l k
  unfold spec_pzParse.f
  repeat' first
      | (with_reducible exact ih0 _ _ _)
      | (with_reducible exact ih1 _ _ _ _ _ _)
      | (with_reducible exact spec_l1Read.mono _ _)
      | (with_reducible exact spec_l1Split.mono _ _ _)
      | (with_reducible exact spec_pzGood.mono _ _ _)
      | (with_reducible exact spec_pzText.mono _ _ _)
      | (with_reducible exact LeO.refl _)
      | (with_reducible exact LeO.none _)
      | (with_reducible refine LeO.ite ?_ ?_)
      | (with_reducible refine LeO.bind ?_ (fun _ => ?_))
      | exact ih0 _ _ _
      | exact ih1 _ _ _ _ _ _
      | exact spec_l1Read.mono _ _
      | exact spec_l1Split.mono _ _ _
      | exact spec_pzGood.mono _ _ _
      | exact spec_pzText.mono _ _ _
      | exact LeO.none _
      | refine LeO.ite ?_ ?_
      | refine LeO.bind ?_ (fun _ => ?_)
def spec_pzParse.T12 : Bool × List (List Nat × List Nat) := (true, [([], []), ([0], [0]), ([], []), ([2], [2]), ([3], [3]), ([4], [4]), ([], []), ([6], [6]), ([7], [7]), ([8, 5], [8]), ([], []), ([10], [10]), ([11], [11]), ([12, 9], [12]), ([], []), ([14], [14]), ([15], [15]), ([16, 13], [16]), ([5, 9, 13, 17], [5, 9, 13, 17]), ([18], [18]), ([1, 19, 17], [1, 19]), ([0, 1, 2, 3, 4, 5, 6, 7, 8, 9, 10, 11, 12, 13, 14, 15, 16, 17, 18, 19, 20], []), ([21, 20, 20, 0, 1, 2, 3, 4, 5, 6, 7, 8, 9, 10, 11, 12, 13, 14, 15, 16, 17, 18, 19, 20], [20, 21])])
def spec_pzParse.B12 : List Nat := [0, 1, 0, 4, 12, 28, 0, 64, 192, 508, 0, 1024, 3072, 8188, 0, 16384, 49152, 131068, 262140, 524284, 1048575, 2097151, 4194303]
theorem spec_pzParse.tab12 : rtab .any (opsOf Tryd.f9 12) = spec_pzParse.T12 := by kernel_rfl
theorem spec_pzParse.bits12 : waitsOk spec_pzParse.T12.2 spec_pzParse.B12 = true := by kernel_rfl
def spec_pzParse.T14 : Bool × List (List Nat × List Nat) := (true, [([], []), ([], []), ([1], [1]), ([2, 2], [2]), ([3], [3]), ([4, 3, 3], [3, 4]), ([3], [3]), ([5, 6, 3], [3, 5, 6]), ([3, 7], [3, 7]), ([0, 5, 0], [0]), ([8, 9, 0, 1, 2, 3, 4, 5, 6, 7, 8, 9], [8])])
def spec_pzParse.B14 : List Nat := [0, 0, 2, 6, 14, 30, 14, 126, 254, 63, 1023]
theorem spec_pzParse.tab14 : rtab .any (opsOf Tryd.f9 14) = spec_pzParse.T14 := by kernel_rfl
theorem spec_pzParse.bits14 : waitsOk spec_pzParse.T14.2 spec_pzParse.B14 = true := by kernel_rfl
set_option maxHeartbeats 8000000 in
set_option maxRecDepth 100000 in
theorem spec_pzParse.calls (k : Nat) (a0 : ByteArray) (r1 : Int) (r2 : List (S40)) (r3 : Bool) (w : World) (h : spec_pzParse.f k a0 = some (r1, r2, r3)) :
  Calls Tryd.prog 9 #[.string a0] w fun e w' => ∃ v1_ : Value, e = .returned (.tuple #[.agg #[.int .i64 r1, v1_], .bool r3]) ∧ Kd.R k40 40 w' w.heap.size (fun _ => True) v1_ r2 ∧ Below w.heap.size w w' := by
 have hu24 := Tryd.underlying24
 have hu40 := Tryd.underlying40
 have HB := Aside0.mk (Below.refl w.heap.size w)
 unfold spec_pzParse.f at h
 have H := h
 clear h
 replace H := Option.bind_eq_some_iff.mp H
 obtain ⟨t139, A20, H⟩ := H
 (try dsimp only at H)
 have A2 := Aside0.mk A20
 clear A20
 have HC3 := Aside0.mk H
 clear H
 go_enter Tryd.func9, Tryd.ntmps9
 go_upto_region 2 with (first | ((with_reducible refine gate_dst (N := 2) rfl ?_); (try (refine gate_guard (by rfl) ?_; dsimp only)); refine bx 2 24 #[.int .i64 0, .slice none 0 0] ?_; intro gb138 hg w4 hbox hb; have BK138 := hbox; have GW138 := gs hg; have GE138 := gs hg; replace HB := bs hb; clear hb hbox hg) | ((with_reducible refine gate_callee (f := 18) rfl ?_); refine gl (some 10) Tryd.func18 #[.string a0, .int .u8 58] ?_; (with_reducible refine (spec_l1Split.calls k a0 58 t139 _ A2.out).mono ?_); rintro e w5 ⟨v140, rfl, ho0, hb⟩; refine ⟨_, rfl, ?_⟩; have HO141 := Aside0.mk (Kd.R_lower ho0 (below_size bw)); replace BK138 := nk BK138 hb; replace HB := bs hb; (try clear hb); (try clear ho0)))
 (try simp only [Act.put, List.setIfInBounds_toArray, List.set_cons_zero, List.set_cons_succ])
 go_cut [18] (fun v18 wc => ∃ (kq : Nat) (x18_2 : Bool), v18 = .bool x18_2 ∧ Aside0 (spec_pzParse.j0 kq a0 t139 x18_2 = some (r1, r2, r3)) ∧ Aside0 (kq ≤ k) ∧ Aside0 (Kd.R Kd.string 9 wc w.heap.size (fun _ => True) v140 t139) ∧ Aside0 (wc.heap[gb138]? = some (.cells #[.int .i64 0, (.slice none 0 0)] 24 (0, 0))) ∧ Aside0 (Below w.heap.size w wc))
 case first =>
  have H := HC3.out
  clear HC3
  by_cases c6 : (a0.size : Int) > 120
  ·rw [if_pos c6] at H
   have c6b0 : decide (120 < (a0.size : Int)) = true := decide_eq_true c6
   have c6b1 : decide (120 < a0.size) = true := decide_eq_true (by omega)
   clear c6
   (first | rw [c6b0] | rw [@decide_eq_true _ _ (of_decide_eq_true c6b1)] | rw [@decide_eq_false _ _ (of_decide_eq_false c6b1)] | (simp only [i64_w, i32_w]; rw [c6b0]) | skip)
   have H' := Aside0.mk H
   clear H
   go_wp2
   go_meet
   case rel => exact ⟨_, (true), (rs), H', ⟨by first | omega | exact Nat.le_refl _⟩, ⟨pr HO141⟩, ⟨pk BK138⟩, ⟨bw⟩⟩
  ·rw [if_neg c6] at H
   have c6b0 : decide (120 < (a0.size : Int)) = false := decide_eq_false c6
   have c6b1 : decide (120 < a0.size) = false := decide_eq_false (by omega)
   clear c6
   (first | rw [c6b0] | rw [@decide_eq_true _ _ (of_decide_eq_true c6b1)] | rw [@decide_eq_false _ _ (of_decide_eq_false c6b1)] | (simp only [i64_w, i32_w]; rw [c6b0]) | skip)
   have H' := Aside0.mk H
   clear H
   obtain ⟨Ao7, co7, eo7⟩ := Kd.R_slice HO141.out
   subst eo7
   go_wp2
   go_meet
   case rel => exact ⟨_, (((t139.length : Int) != 2)), (rs), H', ⟨by first | omega | exact Nat.le_refl _⟩, ⟨pr HO141⟩, ⟨pk BK138⟩, ⟨bw⟩⟩
 case rest =>
  clear HC3
  try clear c1
  try clear p2
  try clear c6
  try clear c6b0
  try clear c6b1
  obtain ⟨kq, x18_2, rfl, HA, HJ2, HO_4, BK138, HB⟩ := hcut
  cases kq with
  | zero => exact absurd HA.out (by simp [spec_pzParse.j0])
  | succ kj2 =>
   have H := HA.out
   clear HA
   simp only [spec_pzParse.j0] at H
   by_cases c8 : x18_2 = true
   ·subst c8
    rw [if_pos rfl] at H
    simp only [Option.some.injEq, Prod.mk.injEq] at H
    obtain ⟨rfl, rfl, rfl⟩ := H
    have hcz9_0 : wc.cell? ⟨gb138, 0, none⟩ = some (.int .i64 0) := ec BK138
    have hcz9_1 : wc.cell? ⟨gb138, 1, none⟩ = some (.slice none 0 0) := ec BK138
    have hfz9_0 := blk_frozen BK138.out 0
    have hfz9_1 := blk_frozen BK138.out 1
    go_wp2
    refine bodyPost_ret (results_ct rfl _ _ gb138 24 #[.int .i64 0, .slice none 0 0] (0, 0) _ rfl (by (with_reducible repeat (first | refine blk_drewN ?_ _ | refine blk_drew ?_ | refine blk_alloc ?_ _)); refine blk_put (cs := #[.int .i64 0, .slice none 0 0]) ?_ 1 _ rfl; (with_reducible repeat (first | refine blk_drewN ?_ _ | refine blk_drew ?_ | refine blk_alloc ?_ _)); refine blk_put (cs := #[.int .i64 0, .slice none 0 0]) ?_ 0 _ rfl; (with_reducible repeat (first | refine blk_drewN ?_ _ | refine blk_drew ?_ | refine blk_alloc ?_ _)); exact BK138.out) Tryd.underlying24 rfl (by kernel_rfl)) rfl ?_
    exact ⟨_, rs, by first | exact Kd.R_nil _ _ _ _ _ | exact Kd.N_nil _ _ _ _ _ | exact Kd.V_nil _ _ _ _ _ | exact Kd.Q_nil _ _ _ _ _ | exact Kd.S_nil _ _ _ _ _, bw⟩
   ·replace c8 := Bool.eq_false_iff.mpr c8
    subst c8
    rw [if_neg (show ¬ (false = true) by decide)] at H
    by_cases c10 : 0 < (t139.length : Int)
    ·rw [if_pos c10] at H
     have c10b0 : decide (0 < (t139.length : Int)) = true := decide_eq_true c10
     have c10b1 : decide (0 < t139.length) = true := decide_eq_true (by omega)
     clear c10
     replace H := Option.bind_eq_some_iff.mp H
     obtain ⟨t143, A110, H⟩ := H
     (try dsimp only at H)
     have A11 := Aside0.mk A110
     clear A110
     by_cases c12 : 1 < (t139.length : Int)
     ·rw [if_pos c12] at H
      have c12b0 : decide (1 < (t139.length : Int)) = true := decide_eq_true c12
      have c12b1 : decide (1 < t139.length) = true := decide_eq_true (by omega)
      clear c12
      by_cases c13 : ((rdOf ByteArray.empty t139 1).size : Int) > 0
      ·rw [if_pos c13] at H
       have c13b0 : decide (0 < ((rdOf ByteArray.empty t139 1).size : Int)) = true := decide_eq_true c13
       have c13b1 : decide (0 < (rdOf ByteArray.empty t139 1).size) = true := decide_eq_true (by omega)
       clear c13
       replace H := Option.bind_eq_some_iff.mp H
       obtain ⟨t147, A140, H⟩ := H
       (try dsimp only at H)
       have A14 := Aside0.mk A140
       clear A140
       have H' := Aside0.mk H
       clear H
       obtain ⟨Ao15, co15, eo15⟩ := Kd.R_slice HO_4.out
       subst eo15
       have p142 : 0 ≤ (0 : Int) := (by omega)
       have q142 : 0 < (t139.length : Int) := of_decide_eq_true (by first | (with_reducible assumption) | assumption)
       obtain ⟨ad142, e142, hx142_0⟩ := Kd.at_string (Kd.R_reads' HO_4.out).2.2 0 p142 q142
       cases e142
       have qi142 : (0 < t139.length) = True := eq_true (by omega)
       (try rw [show ((0 : Int)).toNat = 0 from rfl] at hx142_0)
       (try rw [Addr.add_zero'] at hx142_0)
       replace p142 := eq_true p142
       replace q142 := eq_true q142
       go_wp2_with (first | ((with_reducible refine gate_callee (f := 19) rfl ?_); refine gl (some 23) Tryd.func19 #[.string (rdOf ByteArray.empty t139 0)] ?_; (with_reducible refine (spec_l1Read.calls kj2 (rdOf ByteArray.empty t139 0) t143 _ A11.out).mono ?_); rintro e w' ⟨rfl, ⟨nd, rfl⟩⟩; refine ⟨_, rfl, ?_⟩; (try (rw [drewN_self wc]; generalize hq_ : World.drewN wc _ = wc; have n0_ : Aside0 (Kd.R Kd.string 9 wc w.heap.size (fun _ => True) (.slice (some ad142) t139.length co15) t139) := ⟨by rw [← hq_]; exact (pr HO_4)⟩; have n1_ : Aside0 (wc.heap[gb138]? = some (.cells #[.int .i64 0, .slice none 0 0] 24 (0, 0))) := ⟨by rw [← hq_]; exact (pk BK138)⟩; have n2_ : Aside0 (Below w.heap.size w wc) := ⟨by rw [← hq_]; exact bw⟩; clear HO_4 BK138 HB hq_; have HO_4 := n0_; have BK138 := n1_; have HB := n2_; clear n0_ n1_ n2_))) | ((with_reducible refine gate_dst (N := 5) rfl ?_); (try (refine gate_guard (by rfl) ?_; dsimp only)); refine bx 5 24 #[.int .i64 0, .slice none 0 0] ?_; intro gb144 hg w16 hbox hb; replace HO_4 := Aside0.mk (Kd.R_below (pr HO_4) hb); have BK144 := hbox; have GW144 := gs hg; have GE144 := gs hg; replace HB := bs hb; have NB138_144 := nl BK138 hg; have NB144_138 := ng BK138 hg; replace BK138 := nk BK138 hb; clear hb hbox hg; have hnb17 := NB144_138.out; have hnc17 := NB138_144.out; have hcz18_0 := bc BK144 0 (.int .i64 0); have hcz18_1 := bc BK144 1 (.slice none 0 0); have hfz18_0 := blk_frozen BK144.out 0; have hfz18_1 := blk_frozen BK144.out 1; have p145 : 0 ≤ (1 : Int) := (by omega); have q145 : 1 < (t139.length : Int) := of_decide_eq_true (by first | (with_reducible assumption) | assumption); obtain ⟨ad145, e145, hx145_0⟩ := Kd.at_string (Kd.R_reads' HO_4.out).2.2 1 p145 q145; obtain rfl : ad142 = ad145 := (by injection e145); (try simp only [show (1 : Int).toNat = 1 from rfl, Nat.reduceMul, Nat.reduceEqDiff, Go.Addr.add, ↓reduceIte] at hx145_0); have qi145 : (1 < t139.length) = True := eq_true (by omega); (try rw [show ((1 : Int)).toNat = 1 from rfl] at hx145_0); have hn145_0 : ad142.block ≠ gb144 := Kd.own_blk (Kd.R_ne HO_4.out BK144.out (by decide)); have hn145_1 : ad142.block ≠ gb144 := Kd.own_blk (Kd.R_ne HO_4.out BK144.out (by decide)); replace hx145_0 := (cell_far (p := ⟨gb144, 0, none⟩) (by first | (rw [add_block]; exact hn145_0) | (show (Addr.add _ _).block ≠ _; rw [add_block]; exact hn145_0) | exact hn145_0) (.int .i64 t143)).trans hx145_0; replace hx145_0 := (cell_far (p := ⟨gb144, 1, none⟩) (by first | (rw [add_block]; exact hn145_1) | (show (Addr.add _ _).block ≠ _; rw [add_block]; exact hn145_1) | exact hn145_1) (.slice none 0 0)).trans hx145_0; clear hn145_0; clear hn145_1; replace p145 := eq_true p145; replace q145 := eq_true q145; have p146 : 0 ≤ (1 : Int) := (by omega); have q146 : 1 < (t139.length : Int) := of_decide_eq_true (by first | (with_reducible assumption) | assumption); obtain ⟨ad146, e146, hx146_0⟩ := Kd.at_string (Kd.R_reads' HO_4.out).2.2 1 p146 q146; obtain rfl : ad142 = ad146 := (by injection e146); (try simp only [show (1 : Int).toNat = 1 from rfl, Nat.reduceMul, Nat.reduceEqDiff, Go.Addr.add, ↓reduceIte] at hx146_0); have qi146 : (1 < t139.length) = True := eq_true (by omega); (try rw [show ((1 : Int)).toNat = 1 from rfl] at hx146_0); have hn146_0 : ad142.block ≠ gb144 := Kd.own_blk (Kd.R_ne HO_4.out BK144.out (by decide)); have hn146_1 : ad142.block ≠ gb144 := Kd.own_blk (Kd.R_ne HO_4.out BK144.out (by decide)); replace hx146_0 := (cell_far (p := ⟨gb144, 0, none⟩) (by first | (rw [add_block]; exact hn146_0) | (show (Addr.add _ _).block ≠ _; rw [add_block]; exact hn146_0) | exact hn146_0) (.int .i64 t143)).trans hx146_0; replace hx146_0 := (cell_far (p := ⟨gb144, 1, none⟩) (by first | (rw [add_block]; exact hn146_1) | (show (Addr.add _ _).block ≠ _; rw [add_block]; exact hn146_1) | exact hn146_1) (.slice none 0 0)).trans hx146_0; clear hn146_0; clear hn146_1; replace p146 := eq_true p146; replace q146 := eq_true q146) | ((with_reducible refine gate_callee (f := 18) rfl ?_); refine gl (some 33) Tryd.func18 #[.string (rdOf ByteArray.empty t139 1), .int .u8 44] ?_; (with_reducible refine (spec_l1Split.calls kj2 (rdOf ByteArray.empty t139 1) 44 t147 _ A14.out).mono ?_); rintro e w19 ⟨v148, rfl, ho0, hb⟩; refine ⟨_, rfl, ?_⟩; have HO149 := Aside0.mk (Kd.R_lower (Kd.R_new' ho0 (Kd.R_lt (by (with_reducible repeat (first | apply Kd.R_alloc | apply Kd.R_drewN | apply Kd.R_drew)); exact (Kd.R_mono (Kd.R_far (p := ⟨gb144, 1, none⟩) (Kd.R_far (p := ⟨gb144, 0, none⟩) (Kd.R_types HO_4.out BK144.out (by decide)) (fun _ hk => hk.2) (.int .i64 t143)) (fun _ hk => hk.2) (.slice none 0 0)) (fun _ h_ => h_.1))))) (below_size bw)); replace HO_4 := Aside0.mk (Kd.R_elder' (by (with_reducible repeat (first | apply Kd.R_alloc | apply Kd.R_drewN | apply Kd.R_drew)); exact (Kd.R_mono (Kd.R_far (p := ⟨gb144, 1, none⟩) (Kd.R_far (p := ⟨gb144, 0, none⟩) (Kd.R_types HO_4.out BK144.out (by decide)) (fun _ hk => hk.2) (.int .i64 t143)) (fun _ hk => hk.2) (.slice none 0 0)) (fun _ h_ => h_.1))) (Kd.R_base ho0) hb); replace BK138 := Aside0.mk (blk_below (g := gb138) (o := .cells #[.int .i64 0, .slice none 0 0] 24 (0, 0)) (by (with_reducible repeat (first | refine blk_drewN ?_ _ | refine blk_drew ?_ | refine blk_alloc ?_ _)); refine blk_far ?_ NB138_144.out _; (with_reducible repeat (first | refine blk_drewN ?_ _ | refine blk_drew ?_ | refine blk_alloc ?_ _)); refine blk_far ?_ NB138_144.out _; (with_reducible repeat (first | refine blk_drewN ?_ _ | refine blk_drew ?_ | refine blk_alloc ?_ _)); exact BK138.out) hb); replace BK144 := Aside0.mk (blk_below (g := gb144) (o := .cells #[.int .i64 t143, .slice none 0 0] 24 (0, 0)) (by (with_reducible repeat (first | refine blk_drewN ?_ _ | refine blk_drew ?_ | refine blk_alloc ?_ _)); refine blk_put (cs := #[.int .i64 t143, .slice none 0 0]) ?_ 1 _ rfl; (with_reducible repeat (first | refine blk_drewN ?_ _ | refine blk_drew ?_ | refine blk_alloc ?_ _)); refine blk_put (cs := #[.int .i64 0, .slice none 0 0]) ?_ 0 _ rfl; (with_reducible repeat (first | refine blk_drewN ?_ _ | refine blk_drew ?_ | refine blk_alloc ?_ _)); exact BK144.out) hb); replace HB := bs hb; (try clear hb); (try clear ho0); obtain ⟨Ao20, co20, eo20⟩ := Kd.R_slice HO149.out; subst eo20))
       go_loopg [35] kj2 (fun kq v35 w' => ∃ (x35_2 : Int) (x139000_2 : Int) (x145001_2 : List (S40)) (u145001 : Value), v35 = .int .i64 x35_2 ∧ Aside0 (spec_pzParse.l0 kq a0 t147 (t147.length : Int) x35_2 t143 x145001_2 = some (r1, r2, r3)) ∧ Aside0 (kq ≤ kj2) ∧ Aside0 (Kd.R Kd.string 9 w' w.heap.size (fun _ => True) (.slice Ao20 t147.length co20) t147) ∧ Aside0 (Kd.R k40 40 w' w.heap.size (fun _ => True) u145001 x145001_2) ∧ Aside0 (w'.heap[gb138]? = some (.cells #[.int .i64 x139000_2, (.slice none 0 0)] 24 (0, 0))) ∧ Aside0 (w'.heap[gb144]? = some (.cells #[.int .i64 t143, u145001] 24 (0, 0))) ∧ Aside0 (Below w.heap.size w w'))
       case atStart => exact ⟨(0), (0), (([] : List (S40))), (.slice none 0 0), (rs), H', ⟨Nat.le_refl _⟩, ⟨by (with_reducible repeat (first | apply Kd.R_alloc | apply Kd.R_drewN | apply Kd.R_drew)); exact Kd.R_mono HO149.out (fun _ hk => trivial)⟩, ⟨by first | exact Kd.R_nil _ _ _ _ _ | exact Kd.N_nil _ _ _ _ _ | exact Kd.V_nil _ _ _ _ _ | exact Kd.Q_nil _ _ _ _ _ | exact Kd.S_nil _ _ _ _ _⟩, ⟨pk BK138⟩, ⟨pk BK144⟩, ⟨bw⟩⟩
       case round =>
        clear H'
        try clear c1
        try clear p1
        try clear q1
        try clear hx1
        try clear qi1
        try clear p2
        try clear c6
        try clear c6b0
        try clear c6b1
        try clear c8
        try clear c9
        try clear c10
        try clear c10b0
        try clear c10b1
        try clear c12
        try clear c12b0
        try clear c12b1
        try clear c13
        try clear c13b0
        try clear c13b1
        try clear p14
        try clear q14
        try clear hx14
        try clear qi14
        try clear c17
        try clear c18
        try clear c19
        try clear hcz18_0
        try clear hcz18_1
        try clear hcz9_0
        try clear hcz9_1
        try clear hfz18_0
        try clear hfz18_1
        try clear hfz9_0
        try clear hfz9_1
        try clear hx142_0
        try clear hx145_0
        try clear hx146_0
        try clear p142
        try clear p145
        try clear p146
        try clear p2
        try clear q142
        try clear q145
        try clear q146
        obtain ⟨x35_2, x139000_2, x145001_2, u145001, rfl, HA, HK2, HO_33, HO_145001, BK138, BK144, HB⟩ := hrel
        cases gk with
        | zero => exact absurd HA.out (by simp [spec_pzParse.l0])
        | succ k2 =>
         have H := HA.out
         clear HA
         simp only [spec_pzParse.l0] at H
         by_cases c21 : x35_2 < (t147.length : Int)
         ·rw [if_pos c21] at H
          have c21b0 : decide (x35_2 < (t147.length : Int)) = true := decide_eq_true c21
          clear c21
          by_cases c22 : 0 ≤ x35_2
          ·rw [if_pos c22] at H
           have c22b0 : decide (0 ≤ x35_2) = true := decide_eq_true c22
           clear c22
           by_cases c23 : x35_2 < (t147.length : Int)
           ·rw [if_pos c23] at H
            have c23b0 : decide (x35_2 < (t147.length : Int)) = true := decide_eq_true c23
            clear c23
            replace H := Option.bind_eq_some_iff.mp H
            obtain ⟨t153, A240, H⟩ := H
            (try dsimp only at H)
            have A24 := Aside0.mk A240
            clear A240
            by_cases c25 : (t153.length : Int) = 4
            ·rw [if_pos c25] at H
             have c25b0 : ((t153.length : Int) == 4) = true := beq_iff_eq.mpr c25
             have c25b1 : ((t153.length : Int) != 4) = false := bne_eq_false_iff_eq.mpr c25
             clear c25
             by_cases c26 : 0 < (t153.length : Int)
             ·rw [if_pos c26] at H
              have c26b0 : decide (0 < (t153.length : Int)) = true := decide_eq_true c26
              have c26b1 : decide (0 < t153.length) = true := decide_eq_true (by omega)
              clear c26
              replace H := Option.bind_eq_some_iff.mp H
              obtain ⟨t157, A270, H⟩ := H
              (try dsimp only at H)
              have A27 := Aside0.mk A270
              clear A270
              by_cases c28 : 1 < (t153.length : Int)
              ·rw [if_pos c28] at H
               have c28b0 : decide (1 < (t153.length : Int)) = true := decide_eq_true c28
               have c28b1 : decide (1 < t153.length) = true := decide_eq_true (by omega)
               clear c28
               replace H := Option.bind_eq_some_iff.mp H
               obtain ⟨t159, A290, H⟩ := H
               (try dsimp only at H)
               have A29 := Aside0.mk A290
               clear A290
               by_cases c30 : 2 < (t153.length : Int)
               ·rw [if_pos c30] at H
                have c30b0 : decide (2 < (t153.length : Int)) = true := decide_eq_true c30
                have c30b1 : decide (2 < t153.length) = true := decide_eq_true (by omega)
                clear c30
                replace H := Option.bind_eq_some_iff.mp H
                obtain ⟨t161, A310, H⟩ := H
                (try dsimp only at H)
                have A31 := Aside0.mk A310
                clear A310
                by_cases c32 : 3 < (t153.length : Int)
                ·rw [if_pos c32] at H
                 have c32b0 : decide (3 < (t153.length : Int)) = true := decide_eq_true c32
                 have c32b1 : decide (3 < t153.length) = true := decide_eq_true (by omega)
                 clear c32
                 replace H := Option.bind_eq_some_iff.mp H
                 obtain ⟨t163, A330, H⟩ := H
                 (try dsimp only at H)
                 have A33 := Aside0.mk A330
                 clear A330
                 by_cases c34 : x145001_2.length < 4398046511104
                 ·rw [if_pos c34] at H
                  have LMc34 := Aside0.mk c34
                  clear c34
                  obtain ⟨y164, hy164⟩ : ∃ y_ : List (S40), y_ = (x145001_2 ++ [(⟨t157, t159, t161, t163⟩ : S40)]) := ⟨_, rfl⟩
                  replace H : (spec_pzParse.l0 k2 a0 t147 (t147.length : Int) (wrap64 (x35_2 + 1)) t143 y164) = some (r1, r2, r3) := by first | (rw [hy164]; with_reducible exact H) | (have H2_ := (Option.bind_some _ _).symm.trans H; rw [hy164]; with_reducible exact H2_) | (have H2_ := (Option.bind_some _ _).symm.trans H; with_reducible exact H2_) | with_reducible exact H | (rw [hy164]; exact H) | exact H
                  have Ny164 := Aside0.mk hy164
                  clear hy164
                  have H' := Aside0.mk H
                  clear H
                  have p152 : 0 ≤ (x35_2 : Int) := of_decide_eq_true (by first | (with_reducible assumption) | assumption)
                  have q152 : x35_2 < (t147.length : Int) := of_decide_eq_true (by first | (with_reducible assumption) | assumption)
                  obtain ⟨ad152, e152, hx152_0⟩ := Kd.at_string (Kd.R_reads' HO_33.out).2.2 x35_2 p152 q152
                  cases e152
                  replace p152 := eq_true p152
                  replace q152 := eq_true q152
                  try go_wp2_with (first | ((with_reducible refine gate_callee (f := 18) rfl ?_); refine gl (some 40) Tryd.func18 #[.string (rdOf ByteArray.empty t147 x35_2), .int .u8 46] ?_; (with_reducible refine (spec_l1Split.calls k2 (rdOf ByteArray.empty t147 x35_2) 46 t153 _ A24.out).mono ?_); rintro e w35 ⟨v154, rfl, ho0, hb⟩; refine ⟨_, rfl, ?_⟩; replace HO_145001 := Aside0.mk (Kd.R_below (pr HO_145001) hb); have HO155 := Aside0.mk (Kd.R_lower (Kd.R_new' ho0 (Kd.R_lt (pr HO_33))) (below_size bw)); replace HO_33 := Aside0.mk (Kd.R_elder' (pr HO_33) (Kd.R_base ho0) hb); replace BK138 := nk BK138 hb; replace BK144 := nk BK144 hb; replace HB := bs hb; (try clear hb); (try clear ho0); obtain ⟨Ao36, co36, eo36⟩ := Kd.R_slice HO155.out; subst eo36))
                  replace HO_33 := Aside0.mk (Kd.R_drew HO_33.out)
                  replace HO_145001 := Aside0.mk (Kd.R_drew HO_145001.out)
                  replace HO155 := Aside0.mk (Kd.R_drew HO155.out)
                  replace BK138 := Aside0.mk (blk_drew BK138.out)
                  replace BK144 := Aside0.mk (blk_drew BK144.out)
                  replace HB := Aside0.mk (below_drew1 HB.out)
                  have p156 : 0 ≤ (0 : Int) := (by omega)
                  have q156 : 0 < (t153.length : Int) := of_decide_eq_true (by first | (with_reducible assumption) | assumption)
                  obtain ⟨ad156, e156, hx156_0⟩ := Kd.at_string (Kd.R_reads' HO155.out).2.2 0 p156 q156
                  cases e156
                  have qi156 : (0 < t153.length) = True := eq_true (by omega)
                  (try rw [show ((0 : Int)).toNat = 0 from rfl] at hx156_0)
                  (try rw [Addr.add_zero'] at hx156_0)
                  replace p156 := eq_true p156
                  replace q156 := eq_true q156
                  have p158 : 0 ≤ (1 : Int) := (by omega)
                  have q158 : 1 < (t153.length : Int) := of_decide_eq_true (by first | (with_reducible assumption) | assumption)
                  obtain ⟨ad158, e158, hx158_0⟩ := Kd.at_string (Kd.R_reads' HO155.out).2.2 1 p158 q158
                  obtain rfl : ad156 = ad158 := (by injection e158)
                  (try simp only [show (1 : Int).toNat = 1 from rfl, Nat.reduceMul, Nat.reduceEqDiff, Go.Addr.add, ↓reduceIte] at hx158_0)
                  have qi158 : (1 < t153.length) = True := eq_true (by omega)
                  (try rw [show ((1 : Int)).toNat = 1 from rfl] at hx158_0)
                  replace p158 := eq_true p158
                  replace q158 := eq_true q158
                  have p160 : 0 ≤ (2 : Int) := (by omega)
                  have q160 : 2 < (t153.length : Int) := of_decide_eq_true (by first | (with_reducible assumption) | assumption)
                  obtain ⟨ad160, e160, hx160_0⟩ := Kd.at_string (Kd.R_reads' HO155.out).2.2 2 p160 q160
                  obtain rfl : ad156 = ad160 := (by injection e160)
                  (try simp only [show (2 : Int).toNat = 2 from rfl, Nat.reduceMul, Nat.reduceEqDiff, Go.Addr.add, ↓reduceIte] at hx160_0)
                  have qi160 : (2 < t153.length) = True := eq_true (by omega)
                  (try rw [show ((2 : Int)).toNat = 2 from rfl] at hx160_0)
                  replace p160 := eq_true p160
                  replace q160 := eq_true q160
                  have p162 : 0 ≤ (3 : Int) := (by omega)
                  have q162 : 3 < (t153.length : Int) := of_decide_eq_true (by first | (with_reducible assumption) | assumption)
                  obtain ⟨ad162, e162, hx162_0⟩ := Kd.at_string (Kd.R_reads' HO155.out).2.2 3 p162 q162
                  obtain rfl : ad156 = ad162 := (by injection e162)
                  (try simp only [show (3 : Int).toNat = 3 from rfl, Nat.reduceMul, Nat.reduceEqDiff, Go.Addr.add, ↓reduceIte] at hx162_0)
                  have qi162 : (3 < t153.length) = True := eq_true (by omega)
                  (try rw [show ((3 : Int)).toNat = 3 from rfl] at hx162_0)
                  replace p162 := eq_true p162
                  replace q162 := eq_true q162
                  refine start_ (n := 23) (S := fun w' => w'.cell? ⟨gb144, 0, none⟩ = some (.int .i64 t143) ∧ w'.cell? ⟨gb144, 1, none⟩ = some (u145001) ∧ w'.cell? ad156 = some (.string (rdOf ByteArray.empty t153 0)) ∧ w'.cell? ⟨ad156.block, ad156.off + 1, none⟩ = some (.string (rdOf ByteArray.empty t153 1)) ∧ w'.cell? ⟨ad156.block, ad156.off + 2, none⟩ = some (.string (rdOf ByteArray.empty t153 2)) ∧ w'.cell? ⟨ad156.block, ad156.off + 3, none⟩ = some (.string (rdOf ByteArray.empty t153 3))) (ds := [20, 22]) #[false, false, false, false, false, false, false, false, false, false, false, false, false, false, false, false, false, false, false, false, false, false, false] (by kernel_rfl) rfl rfl ⟨ec BK144, ec BK144, hx156_0, hx158_0, hx160_0, hx162_0⟩ (fun hHeld => ?_); refine with_tabW spec_pzParse.tab12 spec_pzParse.bits12 (fun HT_ HW_ => ?_)
                  generalize w35.drew = w37 at HO_33 HO_145001 HO155 BK138 BK144 HB hx156_0 hx158_0 hx160_0 hx162_0 hHeld ⊢
                  refine pu 0 (some 45) #[true, false, false, false, false, false, false, false, false, false, false, false, false, false, false, false, false, false, false, false, false, false, false] ?_
                  refine pu 2 (some 47) #[true, false, true, false, false, false, false, false, false, false, false, false, false, false, false, false, false, false, false, false, false, false, false] ?_
                  refine pu 3 (some 48) #[true, false, true, true, false, false, false, false, false, false, false, false, false, false, false, false, false, false, false, false, false, false, false] ?_
                  refine pu 6 (some 51) #[true, false, true, true, false, false, true, false, false, false, false, false, false, false, false, false, false, false, false, false, false, false, false] ?_
                  refine pu 7 (some 52) #[true, false, true, true, false, false, true, true, false, false, false, false, false, false, false, false, false, false, false, false, false, false, false] ?_
                  refine pu 10 (some 55) #[true, false, true, true, false, false, true, true, false, false, true, false, false, false, false, false, false, false, false, false, false, false, false] ?_
                  refine pu 11 (some 56) #[true, false, true, true, false, false, true, true, false, false, true, true, false, false, false, false, false, false, false, false, false, false, false] ?_
                  refine pu 14 (some 59) #[true, false, true, true, false, false, true, true, false, false, true, true, false, false, true, false, false, false, false, false, false, false, false] ?_
                  refine pu 15 (some 60) #[true, false, true, true, false, false, true, true, false, false, true, true, false, false, true, true, false, false, false, false, false, false, false] ?_
                  refine take_ (i := 1) (N := some 46) (v := ?_) (a' := ?_) #[true, true, true, true, false, false, true, true, false, false, true, true, false, false, true, true, false, false, false, false, false, false, false] rfl rfl (take_ofW HT_.out HW_.out (by kernel_rfl)) (fun _ _ _ h => h) (Or.inl ⟨by rfl, ?_⟩) hHeld ?_ ?_
                  rotate_left
                  ·rintro w' ⟨s0, s1, s2, s3, s4, s5⟩
                   go_simp
                   with_reducible rfl
                  rotate_left
                  ·simp only [Act.put, List.setIfInBounds_toArray, List.set_cons_zero, List.set_cons_succ, i64_w, i32_w]
                   rfl
                  refine take_ (i := 4) (N := some 49) (v := ?_) (a' := ?_) #[true, true, true, true, true, false, true, true, false, false, true, true, false, false, true, true, false, false, false, false, false, false, false] rfl rfl (take_ofW HT_.out HW_.out (by kernel_rfl)) (fun _ _ _ h => h) (Or.inl ⟨by rfl, ?_⟩) hHeld ?_ ?_
                  rotate_left
                  ·rintro w' ⟨s0, s1, s2, s3, s4, s5⟩
                   go_simp
                   with_reducible rfl
                  rotate_left
                  ·simp only [Act.put, List.setIfInBounds_toArray, List.set_cons_zero, List.set_cons_succ, i64_w, i32_w]
                   rfl
                  refine take_ (i := 8) (N := some 53) (v := ?_) (a' := ?_) #[true, true, true, true, true, false, true, true, true, false, true, true, false, false, true, true, false, false, false, false, false, false, false] rfl rfl (take_ofW HT_.out HW_.out (by kernel_rfl)) (fun _ _ _ h => h) (Or.inl ⟨by rfl, ?_⟩) hHeld ?_ ?_
                  rotate_left
                  ·rintro w' ⟨s0, s1, s2, s3, s4, s5⟩
                   go_simp
                   with_reducible rfl
                  rotate_left
                  ·simp only [Act.put, List.setIfInBounds_toArray, List.set_cons_zero, List.set_cons_succ, i64_w, i32_w]
                   rfl
                  refine take_ (i := 12) (N := some 57) (v := ?_) (a' := ?_) #[true, true, true, true, true, false, true, true, true, false, true, true, true, false, true, true, false, false, false, false, false, false, false] rfl rfl (take_ofW HT_.out HW_.out (by kernel_rfl)) (fun _ _ _ h => h) (Or.inl ⟨by rfl, ?_⟩) hHeld ?_ ?_
                  rotate_left
                  ·rintro w' ⟨s0, s1, s2, s3, s4, s5⟩
                   go_simp
                   with_reducible rfl
                  rotate_left
                  ·simp only [Act.put, List.setIfInBounds_toArray, List.set_cons_zero, List.set_cons_succ, i64_w, i32_w]
                   rfl
                  refine take_ (i := 16) (N := some 61) (v := ?_) (a' := ?_) #[true, true, true, true, true, false, true, true, true, false, true, true, true, false, true, true, true, false, false, false, false, false, false] rfl rfl (take_ofW HT_.out HW_.out (by kernel_rfl)) (fun _ _ _ h => h) (Or.inl ⟨by rfl, ?_⟩) hHeld ?_ ?_
                  rotate_left
                  ·rintro w' ⟨s0, s1, s2, s3, s4, s5⟩
                   go_simp
                   with_reducible rfl
                  rotate_left
                  ·simp only [Act.put, List.setIfInBounds_toArray, List.set_cons_zero, List.set_cons_succ, i64_w, i32_w]
                   rfl
                  refine one_ (i := 5) (N := some 50) #[true, true, true, true, true, true, true, true, true, false, true, true, true, false, true, true, true, false, false, false, false, false, false] rfl rfl (one_of HT_.out (by kernel_rfl)) (by decide) (fun K hK => ?_)
                  refine goes_ Tryd.func19 (by kernel_rfl) rfl #[.string (rdOf ByteArray.empty t153 0)] (by rfl) rfl rfl (by (try simp only [List.map_toArray, List.map_cons, List.map_nil]); first | done | rfl | (simp only [List.length_drop, List.length_take]; rfl)) ?_
                  with_reducible refine (spec_l1Read.calls k2 (rdOf ByteArray.empty t153 0) t157 _ A27.out).mono ?_
                  rintro e w' ⟨rfl, ⟨nd, rfl⟩⟩
                  refine ⟨_, rfl, ?_⟩
                  refine hK.out _ _ ⟨ec BK144, ec BK144, hHeld.2.2.1, hHeld.2.2.2.1, hHeld.2.2.2.2.1, hHeld.2.2.2.2.2⟩ (fun hHeld => ?_)
                  clear hK K
                  refine nm (some 50) ?_
                  refine one_ (i := 9) (N := some 54) #[true, true, true, true, true, true, true, true, true, true, true, true, true, false, true, true, true, false, false, false, false, false, false] rfl rfl (one_of HT_.out (by kernel_rfl)) (by decide) (fun K hK => ?_)
                  refine goes_ Tryd.func19 (by kernel_rfl) rfl #[.string (rdOf ByteArray.empty t153 1)] (by rfl) rfl rfl (by (try simp only [List.map_toArray, List.map_cons, List.map_nil]); first | done | rfl | (simp only [List.length_drop, List.length_take]; rfl)) ?_
                  with_reducible refine (spec_l1Read.calls k2 (rdOf ByteArray.empty t153 1) t159 _ A29.out).mono ?_
                  rintro e w' ⟨rfl, ⟨nd, rfl⟩⟩
                  refine ⟨_, rfl, ?_⟩
                  refine hK.out _ _ ⟨ec BK144, ec BK144, hHeld.2.2.1, hHeld.2.2.2.1, hHeld.2.2.2.2.1, hHeld.2.2.2.2.2⟩ (fun hHeld => ?_)
                  clear hK K
                  refine nm (some 54) ?_
                  refine one_ (i := 13) (N := some 58) #[true, true, true, true, true, true, true, true, true, true, true, true, true, true, true, true, true, false, false, false, false, false, false] rfl rfl (one_of HT_.out (by kernel_rfl)) (by decide) (fun K hK => ?_)
                  refine goes_ Tryd.func19 (by kernel_rfl) rfl #[.string (rdOf ByteArray.empty t153 2)] (by rfl) rfl rfl (by (try simp only [List.map_toArray, List.map_cons, List.map_nil]); first | done | rfl | (simp only [List.length_drop, List.length_take]; rfl)) ?_
                  with_reducible refine (spec_l1Read.calls k2 (rdOf ByteArray.empty t153 2) t161 _ A31.out).mono ?_
                  rintro e w' ⟨rfl, ⟨nd, rfl⟩⟩
                  refine ⟨_, rfl, ?_⟩
                  refine hK.out _ _ ⟨ec BK144, ec BK144, hHeld.2.2.1, hHeld.2.2.2.1, hHeld.2.2.2.2.1, hHeld.2.2.2.2.2⟩ (fun hHeld => ?_)
                  clear hK K
                  refine nm (some 58) ?_
                  refine one_ (i := 17) (N := some 62) #[true, true, true, true, true, true, true, true, true, true, true, true, true, true, true, true, true, true, false, false, false, false, false] rfl rfl (one_of HT_.out (by kernel_rfl)) (by decide) (fun K hK => ?_)
                  refine goes_ Tryd.func19 (by kernel_rfl) rfl #[.string (rdOf ByteArray.empty t153 3)] (by rfl) rfl rfl (by (try simp only [List.map_toArray, List.map_cons, List.map_nil]); first | done | rfl | (simp only [List.length_drop, List.length_take]; rfl)) ?_
                  with_reducible refine (spec_l1Read.calls k2 (rdOf ByteArray.empty t153 3) t163 _ A33.out).mono ?_
                  rintro e w' ⟨rfl, ⟨nd, rfl⟩⟩
                  refine ⟨_, rfl, ?_⟩
                  refine hK.out _ _ ⟨ec BK144, ec BK144, hHeld.2.2.1, hHeld.2.2.2.1, hHeld.2.2.2.2.1, hHeld.2.2.2.2.2⟩ (fun hHeld => ?_)
                  clear hK K
                  refine nm (some 62) ?_
                  refine pu 18 (some 63) #[true, true, true, true, true, true, true, true, true, true, true, true, true, true, true, true, true, true, true, false, false, false, false] ?_
                  refine one_ (i := 19) (N := some 64) #[true, true, true, true, true, true, true, true, true, true, true, true, true, true, true, true, true, true, true, true, false, false, false] rfl rfl (one_of HT_.out (by kernel_rfl)) (by decide) (fun K hK => ?_)
                  refine value_ (w1 := ?_) (v := ?_) (by rfl) rfl ?_ ?_
                  rotate_left 2
                  ·go_simp
                   constructor
                   ·rfl
                   ·rfl
                  refine hK.out _ _ ⟨(blk_cell (blk_alloc BK144.out _) 0).trans rfl, (blk_cell (blk_alloc BK144.out _) 1).trans rfl, (World.cell?_alloc_lt _ _ _ (World.block_lt_of_cell? _ _ (hHeld.2.2.1))).trans (hHeld.2.2.1), (World.cell?_alloc_lt _ _ _ (World.block_lt_of_cell? _ _ (hHeld.2.2.2.1))).trans (hHeld.2.2.2.1), (World.cell?_alloc_lt _ _ _ (World.block_lt_of_cell? _ _ (hHeld.2.2.2.2.1))).trans (hHeld.2.2.2.2.1), (World.cell?_alloc_lt _ _ _ (World.block_lt_of_cell? _ _ (hHeld.2.2.2.2.2))).trans (hHeld.2.2.2.2.2)⟩ (fun hHeld => ?_)
                  clear hK K
                  refine nm (some 64) ?_
                  refine last_ (i := 20) (N := some 65) #[true, true, true, true, true, true, true, true, true, true, true, true, true, true, true, true, true, true, true, true, true, false, false] rfl rfl (one_of HT_.out (by kernel_rfl)) (by decide) (fun K hK => ?_)
                  refine Kd.R_append_step k40 (w0 := w) w.heap.size (by rfl) (.tmp 46) (.tmp 64) 22 40 (.agg #[(.int .i64 0), (.int .i64 0), (.int .i64 0), (.int .i64 0)]) 32 rfl Tryd.underlying22 info40 rfl (by decide) (by omega) u145001 x145001_2 (⟨t157, t159, t161, t163⟩ : S40) [.int .i64 t157, .int .i64 t159, .int .i64 t161, .int .i64 t163] (fun _ => True) (fun _ => False) rfl rfl ?aP (fun _ hk => hk.elim) ?aF ?aO ?aB ?aS ?aL ?_
                  (case aP => exact k40_mkM _ _ _ (⟨t157, t159, t161, t163⟩ : S40))
                  (case aB => exact bw)
                  (case aF => exact (fun _ _ => trivial))
                  (case aO => exact (pr HO_145001))
                  (case aS => exact (below_size bw))
                  (case aL => have := LMc34.out; omega)
                  intro v165 w38 ho hb hg hat
                  rw [← Ny164.out] at ho
                  have n0_ := Aside0.mk (Kd.R_over' (pr HO_33) (Kd.R_typed (pr HO_145001)) (by decide) hg)
                  have n1_ := Aside0.mk (blk_grown (pk BK138) hg (Kd.R_ne HO_145001.out BK138.out (by decide)))
                  have n2_ := Aside0.mk (blk_grown (pk BK144) hg (Kd.R_ne HO_145001.out BK144.out (by decide)))
                  have n3_ := Aside0.mk (Kd.R_over' (pr HO155) (Kd.R_typed (pr HO_145001)) (by decide) hg)
                  have n4_ := Aside0.mk (hb)
                  have n5_ := Aside0.mk (ho)
                  clear HO_33
                  clear BK138
                  clear BK144
                  clear HO155
                  clear HB
                  clear HO_145001
                  have HO_33 := n0_
                  have BK138 := n1_
                  have BK144 := n2_
                  have HO155 := n3_
                  have HB := n4_
                  have HO166 := n5_
                  clear n0_ n1_ n2_ n3_ n4_ n5_
                  clear ho hb hg hat
                  obtain ⟨Ao39, co39, eo39⟩ := Kd.R_slice HO166.out
                  (first | subst eo39 | (injection eo39 with f1_ f2_ f3_; have f4_ := f1_.symm; have f5_ := f3_.symm; clear f1_ f2_ f3_; subst f4_; subst f5_))
                  refine hK.out _ _ ?_
                  clear hK K
                  refine nm (some 65) ?_
                  refine pu 21 (some 66) #[true, true, true, true, true, true, true, true, true, true, true, true, true, true, true, true, true, true, true, true, true, true, false] ?_
                  refine last_ (i := 22) (N := none) #[true, true, true, true, true, true, true, true, true, true, true, true, true, true, true, true, true, true, true, true, true, true, true] rfl rfl (one_of HT_.out (by kernel_rfl)) (by decide) (fun K hK => ?_)
                  have hs40 : w38.cell? ⟨gb144, 1, none⟩ = some (u145001) := ec BK144
                  have hfs40 := blk_frozen BK144.out 1
                  have hns40_0 := NB138_144.out
                  have hms40_0 := NB144_138.out
                  refine skip_ (w1 := ?_) (by rfl) rfl ?_ ?_
                  rotate_left
                  ·go_simp
                   rfl
                  refine hK.out _ _ ?_
                  clear hK K
                  refine done_ (done_of HT_.out (by kernel_rfl)) ?_
                  try go_wp2
                  go_roundg k2
                  case measure => have := HJ2.out; have := HK2.out; omega
                  case rel => exact ⟨(wrap64 (x35_2 + 1)), (x139000_2), (y164), (.slice Ao39 y164.length co39), (rs), H', ⟨by have := HJ2.out; have := HK2.out; omega⟩, ⟨by (with_reducible repeat (first | apply Kd.R_alloc | apply Kd.R_drewN | apply Kd.R_drew)); exact Kd.R_mono (Kd.R_far (p := ⟨gb144, 1, none⟩) (Kd.R_types HO_33.out BK144.out (by decide)) (fun _ hk => hk.2) (.slice Ao39 y164.length co39)) (fun _ hk => trivial)⟩, ⟨by (with_reducible repeat (first | apply Kd.R_alloc | apply Kd.R_drewN | apply Kd.R_drew)); exact Kd.R_mono (Kd.R_far (p := ⟨gb144, 1, none⟩) (Kd.R_types HO166.out BK144.out (by decide)) (fun _ hk => hk.2) (.slice Ao39 y164.length co39)) (fun _ hk => trivial)⟩, ⟨by (with_reducible repeat (first | refine blk_drewN ?_ _ | refine blk_drew ?_ | refine blk_alloc ?_ _)); refine blk_far ?_ NB138_144.out _; (with_reducible repeat (first | refine blk_drewN ?_ _ | refine blk_drew ?_ | refine blk_alloc ?_ _)); exact BK138.out⟩, ⟨by (with_reducible repeat (first | refine blk_drewN ?_ _ | refine blk_drew ?_ | refine blk_alloc ?_ _)); refine blk_put (cs := #[.int .i64 t143, u145001]) ?_ 1 _ rfl; (with_reducible repeat (first | refine blk_drewN ?_ _ | refine blk_drew ?_ | refine blk_alloc ?_ _)); exact BK144.out⟩, ⟨bw⟩⟩
                 ·rw [if_neg c34] at H
                  exact absurd H (by simp)
                ·rw [if_neg c32] at H
                 exact absurd H (by simp)
               ·rw [if_neg c30] at H
                exact absurd H (by simp)
              ·rw [if_neg c28] at H
               exact absurd H (by simp)
             ·rw [if_neg c26] at H
              exact absurd H (by simp)
            ·rw [if_neg c25] at H
             have c25b0 : ((t153.length : Int) == 4) = false := beq_eq_false_iff_ne.mpr c25
             have c25b1 : ((t153.length : Int) != 4) = true := bne_iff_ne.mpr c25
             simp only [Option.some.injEq, Prod.mk.injEq] at H
             obtain ⟨rfl, rfl, rfl⟩ := H
             have p152 : 0 ≤ (x35_2 : Int) := of_decide_eq_true (by first | (with_reducible assumption) | assumption)
             have q152 : x35_2 < (t147.length : Int) := of_decide_eq_true (by first | (with_reducible assumption) | assumption)
             obtain ⟨ad152, e152, hx152_0⟩ := Kd.at_string (Kd.R_reads' HO_33.out).2.2 x35_2 p152 q152
             cases e152
             replace p152 := eq_true p152
             replace q152 := eq_true q152
             go_wp2_with (first | ((with_reducible refine gate_callee (f := 18) rfl ?_); refine gl (some 40) Tryd.func18 #[.string (rdOf ByteArray.empty t147 x35_2), .int .u8 46] ?_; (with_reducible refine (spec_l1Split.calls k2 (rdOf ByteArray.empty t147 x35_2) 46 t153 _ A24.out).mono ?_); rintro e w41 ⟨v154, rfl, ho0, hb⟩; refine ⟨_, rfl, ?_⟩; replace HO_145001 := Aside0.mk (Kd.R_below (pr HO_145001) hb); have HO155 := Aside0.mk (Kd.R_lower (Kd.R_new' ho0 (Kd.R_lt (pr HO_33))) (below_size bw)); replace HO_33 := Aside0.mk (Kd.R_elder' (pr HO_33) (Kd.R_base ho0) hb); replace BK138 := nk BK138 hb; replace BK144 := nk BK144 hb; replace HB := bs hb; (try clear hb); (try clear ho0); obtain ⟨Ao42, co42, eo42⟩ := Kd.R_slice HO155.out; subst eo42; have hnb43 := NB138_144.out; have hnc43 := NB144_138.out; have hcz44_0 := bc BK138 0 (.int .i64 x139000_2); have hcz44_1 := bc BK138 1 (.slice none 0 0); have hfz44_0 := blk_frozen BK138.out 0; have hfz44_1 := blk_frozen BK138.out 1))
             refine bodyPost_ret (results_ct rfl _ _ gb138 24 #[.int .i64 0, .slice none 0 0] (0, 0) _ rfl (by (with_reducible repeat (first | refine blk_drewN ?_ _ | refine blk_drew ?_ | refine blk_alloc ?_ _)); refine blk_put (cs := #[.int .i64 0, .slice none 0 0]) ?_ 1 _ rfl; (with_reducible repeat (first | refine blk_drewN ?_ _ | refine blk_drew ?_ | refine blk_alloc ?_ _)); refine blk_put (cs := #[.int .i64 x139000_2, .slice none 0 0]) ?_ 0 _ rfl; (with_reducible repeat (first | refine blk_drewN ?_ _ | refine blk_drew ?_ | refine blk_alloc ?_ _)); exact BK138.out) Tryd.underlying24 rfl (by kernel_rfl)) rfl ?_
             exact ⟨_, rs, by first | exact Kd.R_nil _ _ _ _ _ | exact Kd.N_nil _ _ _ _ _ | exact Kd.V_nil _ _ _ _ _ | exact Kd.Q_nil _ _ _ _ _ | exact Kd.S_nil _ _ _ _ _, bw⟩
           ·rw [if_neg c23] at H
            exact absurd H (by simp)
          ·rw [if_neg c22] at H
           exact absurd H (by simp)
         ·rw [if_neg c21] at H
          have c21b0 : decide (x35_2 < (t147.length : Int)) = false := decide_eq_false c21
          clear c21
          replace H := Option.bind_eq_some_iff.mp H
          obtain ⟨t150, A450, H⟩ := H
          (try dsimp only at H)
          have A45 := Aside0.mk A450
          clear A450
          by_cases c46 : t150 = true
          ·subst c46
           rw [if_pos rfl] at H
           replace H := Option.bind_eq_some_iff.mp H
           obtain ⟨t151, A470, H⟩ := H
           (try dsimp only at H)
           have A47 := Aside0.mk A470
           clear A470
           simp only [Option.some.injEq, Prod.mk.injEq] at H
           obtain ⟨rfl, rfl, rfl⟩ := H
           try go_wp2
           replace HO_33 := Aside0.mk (Kd.R_drew HO_33.out)
           replace HO_145001 := Aside0.mk (Kd.R_drew HO_145001.out)
           replace BK138 := Aside0.mk (blk_drew BK138.out)
           replace BK144 := Aside0.mk (blk_drew BK144.out)
           replace HB := Aside0.mk (below_drew1 HB.out)
           obtain ⟨Ao49, co49, eo49⟩ := Kd.R_slice HO_145001.out
           (first | subst eo49 | (injection eo49 with f1_ f2_ f3_; have f4_ := f1_.symm; have f5_ := f3_.symm; clear f1_ f2_ f3_; subst f4_; subst f5_))
           refine start_ (n := 11) (S := fun w' => w'.cell? ⟨gb144, 0, none⟩ = some (.int .i64 t143) ∧ w'.cell? ⟨gb144, 1, none⟩ = some (.slice Ao49 x145001_2.length co49)) (ds := []) #[false, false, false, false, false, false, false, false, false, false, false] (by kernel_rfl) rfl rfl ⟨ec BK144, ec BK144⟩ (fun hHeld => ?_); refine with_tabW spec_pzParse.tab14 spec_pzParse.bits14 (fun HT_ HW_ => ?_)
           generalize wr.drew = w48 at HO_33 HO_145001 BK138 BK144 HB hHeld ⊢
           refine take_ (i := 0) (N := some 68) (v := ?_) (a' := ?_) #[true, false, false, false, false, false, false, false, false, false, false] rfl rfl (take_ofW HT_.out HW_.out (by kernel_rfl)) (fun _ _ _ h => h) (Or.inl ⟨by rfl, ?_⟩) hHeld ?_ ?_
           rotate_left
           ·rintro w' ⟨s0, s1⟩
            go_simp
            with_reducible rfl
           rotate_left
           ·simp only [Act.put, List.setIfInBounds_toArray, List.set_cons_zero, List.set_cons_succ, i64_w, i32_w]
            rfl
           refine take_ (i := 1) (N := some 69) (v := ?_) (a' := ?_) #[true, true, false, false, false, false, false, false, false, false, false] rfl rfl (take_ofW HT_.out HW_.out (by kernel_rfl)) (fun _ _ _ h => h) (Or.inl ⟨by rfl, ?_⟩) hHeld ?_ ?_
           rotate_left
           ·rintro w' ⟨s0, s1⟩
            go_simp
            with_reducible rfl
           rotate_left
           ·simp only [Act.put, List.setIfInBounds_toArray, List.set_cons_zero, List.set_cons_succ, i64_w, i32_w]
            rfl
           refine one_ (i := 2) (N := some 70) #[true, true, true, false, false, false, false, false, false, false, false] rfl rfl (one_of HT_.out (by kernel_rfl)) (by decide) (fun K hK => ?_)
           refine goes_ Tryd.func20 (by kernel_rfl) rfl #[.agg #[.int .i64 t143, .slice Ao49 x145001_2.length co49]] (by rfl) rfl rfl (by (try simp only [List.map_toArray, List.map_cons, List.map_nil]); first | done | rfl | (simp only [List.length_drop, List.length_take]; rfl)) ?_
           with_reducible refine (spec_pzGood.calls k2 t143 _ _ x145001_2 true _ ?side1 ?side2 A45.out).mono ?_
           (case side1 => repeat (first | exact (Kd.R_reads' HO_145001.out).2.2 | (with_reducible refine Kd.C_alloc ?_ _) | (with_reducible refine Kd.C_drewN ?_ _) | (with_reducible refine Kd.C_drew ?_)))
           (case side2 => exact (Kd.R_reads' HO_145001.out).2.1)
           rintro e w50 ⟨rfl, hb⟩
           refine ⟨_, rfl, ?_⟩
           replace HO_33 := Aside0.mk (Kd.R_below (pr HO_33) hb)
           replace HO_145001 := Aside0.mk (Kd.R_below (pr HO_145001) hb)
           replace BK138 := nk BK138 hb
           replace BK144 := nk BK144 hb
           replace HB := bs hb
           (try clear hb)
           refine hK.out _ _ ⟨ec BK144, ec BK144⟩ (fun hHeld => ?_)
           clear hK K
           refine nm (some 70) ?_
           refine pu 3 (some 71) #[true, true, true, true, false, false, false, false, false, false, false] ?_
           refine pu 6 (some 74) #[true, true, true, true, false, false, true, false, false, false, false] ?_
           refine take_ (i := 4) (N := some 72) (v := ?_) (a' := ?_) #[true, true, true, true, true, false, true, false, false, false, false] rfl rfl (take_ofW HT_.out HW_.out (by kernel_rfl)) (fun _ _ _ h => h) (Or.inl ⟨by rfl, ?_⟩) hHeld ?_ ?_
           rotate_left
           ·rintro w' ⟨s0, s1⟩
            go_simp
            with_reducible rfl
           rotate_left
           ·simp only [Act.put, List.setIfInBounds_toArray, List.set_cons_zero, List.set_cons_succ, i64_w, i32_w]
            rfl
           refine one_ (i := 5) (N := some 73) #[true, true, true, true, true, true, true, false, false, false, false] rfl rfl (one_of HT_.out (by kernel_rfl)) (by decide) (fun K hK => ?_)
           refine goes_ Tryd.func21 (by kernel_rfl) rfl #[.agg #[.int .i64 t143, .slice Ao49 x145001_2.length co49]] (by rfl) rfl rfl (by (try simp only [List.map_toArray, List.map_cons, List.map_nil]); first | done | rfl | (simp only [List.length_drop, List.length_take]; rfl)) ?_
           with_reducible refine (spec_pzText.calls k2 t143 _ _ x145001_2 t151 _ ?side1 ?side2 A47.out).mono ?_
           (case side1 => repeat (first | exact (Kd.R_reads' HO_145001.out).2.2 | (with_reducible refine Kd.C_alloc ?_ _) | (with_reducible refine Kd.C_drewN ?_ _) | (with_reducible refine Kd.C_drew ?_)))
           (case side2 => exact (Kd.R_reads' HO_145001.out).2.1)
           rintro e w51 ⟨rfl, hb⟩
           refine ⟨_, rfl, ?_⟩
           replace HO_33 := Aside0.mk (Kd.R_below (pr HO_33) hb)
           replace HO_145001 := Aside0.mk (Kd.R_below (pr HO_145001) hb)
           replace BK138 := nk BK138 hb
           replace BK144 := nk BK144 hb
           replace HB := bs hb
           (try clear hb)
           refine hK.out _ _ ⟨ec BK144, ec BK144⟩ (fun hHeld => ?_)
           clear hK K
           refine nm (some 73) ?_
           refine pu 7 (some 75) #[true, true, true, true, true, true, true, true, false, false, false] ?_
           refine pu 8 (some 76) #[true, true, true, true, true, true, true, true, true, false, false] ?_
           refine one_ (i := 9) (N := none) #[true, true, true, true, true, true, true, true, true, true, false] rfl rfl (one_of HT_.out (by kernel_rfl)) (by decide) (fun K hK => ?_)
           have hs52 : w51.cell? ⟨gb138, 0, none⟩ = some (.int .i64 x139000_2) := ec BK138
           have hfs52 := blk_frozen BK138.out 0
           have hns52_1 := NB144_138.out
           have hms52_1 := NB138_144.out
           have hs53 : w51.cell? ⟨gb138, 1, none⟩ = some (.slice none 0 0) := ec BK138
           have hfs53 := blk_frozen BK138.out 1
           have hns53_1 := NB144_138.out
           have hms53_1 := NB138_144.out
           refine skip_ (w1 := ?_) (by rfl) rfl ?_ ?_
           rotate_left
           ·go_simp
            rfl
           refine hK.out _ _ ⟨((cell_far (p := ⟨gb138, _, none⟩) NB144_138.out _).trans (((cell_far (p := ⟨gb138, _, none⟩) NB144_138.out _).trans (hHeld.1)))), ((cell_far (p := ⟨gb138, _, none⟩) NB144_138.out _).trans (((cell_far (p := ⟨gb138, _, none⟩) NB144_138.out _).trans (hHeld.2))))⟩ (fun hHeld => ?_)
           clear hK K
           refine pu 10 (some 3) #[true, true, true, true, true, true, true, true, true, true, true] ?_
           refine done_ (done_of HT_.out (by kernel_rfl)) ?_
           try go_wp2
           refine bodyPost_ret (results_ct rfl _ _ gb138 24 #[.int .i64 t143, .slice Ao49 x145001_2.length co49] (0, 0) _ rfl (by (with_reducible repeat (first | refine blk_drewN ?_ _ | refine blk_drew ?_ | refine blk_alloc ?_ _)); refine blk_put (cs := #[.int .i64 t143, .slice none 0 0]) ?_ 1 _ rfl; (with_reducible repeat (first | refine blk_drewN ?_ _ | refine blk_drew ?_ | refine blk_alloc ?_ _)); refine blk_put (cs := #[.int .i64 x139000_2, .slice none 0 0]) ?_ 0 _ rfl; (with_reducible repeat (first | refine blk_drewN ?_ _ | refine blk_drew ?_ | refine blk_alloc ?_ _)); exact BK138.out) Tryd.underlying24 rfl (by kernel_rfl)) rfl ?_
           exact ⟨_, rs, by (with_reducible repeat (first | apply Kd.R_alloc | apply Kd.R_drewN | apply Kd.R_drew)); exact Kd.R_mono (Kd.R_far (p := ⟨gb138, 1, none⟩) (Kd.R_far (p := ⟨gb138, 0, none⟩) (Kd.R_types HO_145001.out BK138.out (by decide)) (fun _ hk => hk.2) (.int .i64 t143)) (fun _ hk => hk.2) (.slice Ao49 x145001_2.length co49)) (fun _ hk => trivial), bw⟩
          ·replace c46 := Bool.eq_false_iff.mpr c46
           subst c46
           rw [if_neg (show ¬ (false = true) by decide)] at H
           simp only [Option.some.injEq, Prod.mk.injEq] at H
           obtain ⟨rfl, rfl, rfl⟩ := H
           try go_wp2
           replace HO_33 := Aside0.mk (Kd.R_drew HO_33.out)
           replace HO_145001 := Aside0.mk (Kd.R_drew HO_145001.out)
           replace BK138 := Aside0.mk (blk_drew BK138.out)
           replace BK144 := Aside0.mk (blk_drew BK144.out)
           replace HB := Aside0.mk (below_drew1 HB.out)
           obtain ⟨Ao55, co55, eo55⟩ := Kd.R_slice HO_145001.out
           (first | subst eo55 | (injection eo55 with f1_ f2_ f3_; have f4_ := f1_.symm; have f5_ := f3_.symm; clear f1_ f2_ f3_; subst f4_; subst f5_))
           refine start_ (n := 11) (S := fun w' => w'.cell? ⟨gb144, 0, none⟩ = some (.int .i64 t143) ∧ w'.cell? ⟨gb144, 1, none⟩ = some (.slice Ao55 x145001_2.length co55)) (ds := []) #[false, false, false, false, false, false, false, false, false, false, false] (by kernel_rfl) rfl rfl ⟨ec BK144, ec BK144⟩ (fun hHeld => ?_); refine with_tabW spec_pzParse.tab14 spec_pzParse.bits14 (fun HT_ HW_ => ?_)
           generalize wr.drew = w54 at HO_33 HO_145001 BK138 BK144 HB hHeld ⊢
           refine take_ (i := 0) (N := some 68) (v := ?_) (a' := ?_) #[true, false, false, false, false, false, false, false, false, false, false] rfl rfl (take_ofW HT_.out HW_.out (by kernel_rfl)) (fun _ _ _ h => h) (Or.inl ⟨by rfl, ?_⟩) hHeld ?_ ?_
           rotate_left
           ·rintro w' ⟨s0, s1⟩
            go_simp
            with_reducible rfl
           rotate_left
           ·simp only [Act.put, List.setIfInBounds_toArray, List.set_cons_zero, List.set_cons_succ, i64_w, i32_w]
            rfl
           refine take_ (i := 1) (N := some 69) (v := ?_) (a' := ?_) #[true, true, false, false, false, false, false, false, false, false, false] rfl rfl (take_ofW HT_.out HW_.out (by kernel_rfl)) (fun _ _ _ h => h) (Or.inl ⟨by rfl, ?_⟩) hHeld ?_ ?_
           rotate_left
           ·rintro w' ⟨s0, s1⟩
            go_simp
            with_reducible rfl
           rotate_left
           ·simp only [Act.put, List.setIfInBounds_toArray, List.set_cons_zero, List.set_cons_succ, i64_w, i32_w]
            rfl
           refine one_ (i := 2) (N := some 70) #[true, true, true, false, false, false, false, false, false, false, false] rfl rfl (one_of HT_.out (by kernel_rfl)) (by decide) (fun K hK => ?_)
           refine goes_ Tryd.func20 (by kernel_rfl) rfl #[.agg #[.int .i64 t143, .slice Ao55 x145001_2.length co55]] (by rfl) rfl rfl (by (try simp only [List.map_toArray, List.map_cons, List.map_nil]); first | done | rfl | (simp only [List.length_drop, List.length_take]; rfl)) ?_
           with_reducible refine (spec_pzGood.calls k2 t143 _ _ x145001_2 false _ ?side1 ?side2 A45.out).mono ?_
           (case side1 => repeat (first | exact (Kd.R_reads' HO_145001.out).2.2 | (with_reducible refine Kd.C_alloc ?_ _) | (with_reducible refine Kd.C_drewN ?_ _) | (with_reducible refine Kd.C_drew ?_)))
           (case side2 => exact (Kd.R_reads' HO_145001.out).2.1)
           rintro e w56 ⟨rfl, hb⟩
           refine ⟨_, rfl, ?_⟩
           replace HO_33 := Aside0.mk (Kd.R_below (pr HO_33) hb)
           replace HO_145001 := Aside0.mk (Kd.R_below (pr HO_145001) hb)
           replace BK138 := nk BK138 hb
           replace BK144 := nk BK144 hb
           replace HB := bs hb
           (try clear hb)
           refine hK.out _ _ ⟨ec BK144, ec BK144⟩ (fun hHeld => ?_)
           clear hK K
           refine nm (some 70) ?_
           refine pu 3 (some 71) #[true, true, true, true, false, false, false, false, false, false, false] ?_
           refine pure_ (i := 4) (N := some 72) (v := undef) (a' := ?_) #[true, true, true, true, true, false, false, false, false, false, false] rfl rfl (any_of HT_.out (by kernel_rfl)) (fun _ _ _ h => h) (Or.inr ⟨by rfl, rfl⟩) ?_ ?_
           rotate_left
           ·simp only [Act.put, List.setIfInBounds_toArray, List.set_cons_zero, List.set_cons_succ, i64_w, i32_w]
            rfl
           refine pure_ (i := 5) (N := some 73) (v := undef) (a' := ?_) #[true, true, true, true, true, true, false, false, false, false, false] rfl rfl (any_of HT_.out (by kernel_rfl)) (fun _ _ _ h => h) (Or.inr ⟨by rfl, rfl⟩) ?_ ?_
           rotate_left
           ·simp only [Act.put, List.setIfInBounds_toArray, List.set_cons_zero, List.set_cons_succ, i64_w, i32_w]
            rfl
           refine pure_ (i := 6) (N := some 74) (v := undef) (a' := ?_) #[true, true, true, true, true, true, true, false, false, false, false] rfl rfl (any_of HT_.out (by kernel_rfl)) (fun _ _ _ h => h) (Or.inr ⟨by rfl, rfl⟩) ?_ ?_
           rotate_left
           ·simp only [Act.put, List.setIfInBounds_toArray, List.set_cons_zero, List.set_cons_succ, i64_w, i32_w]
            rfl
           refine pure_ (i := 7) (N := some 75) (v := undef) (a' := ?_) #[true, true, true, true, true, true, true, true, false, false, false] rfl rfl (any_of HT_.out (by kernel_rfl)) (fun _ _ _ h => h) (Or.inr ⟨by rfl, rfl⟩) ?_ ?_
           rotate_left
           ·simp only [Act.put, List.setIfInBounds_toArray, List.set_cons_zero, List.set_cons_succ, i64_w, i32_w]
            rfl
           refine pu 8 (some 76) #[true, true, true, true, true, true, true, true, true, false, false] ?_
           refine one_ (i := 9) (N := none) #[true, true, true, true, true, true, true, true, true, true, false] rfl rfl (one_of HT_.out (by kernel_rfl)) (by decide) (fun K hK => ?_)
           have hs57 : w56.cell? ⟨gb138, 0, none⟩ = some (.int .i64 x139000_2) := ec BK138
           have hfs57 := blk_frozen BK138.out 0
           have hns57_1 := NB144_138.out
           have hms57_1 := NB138_144.out
           have hs58 : w56.cell? ⟨gb138, 1, none⟩ = some (.slice none 0 0) := ec BK138
           have hfs58 := blk_frozen BK138.out 1
           have hns58_1 := NB144_138.out
           have hms58_1 := NB138_144.out
           refine skip_ (w1 := ?_) (by rfl) rfl ?_ ?_
           rotate_left
           ·go_simp
            rfl
           refine hK.out _ _ ⟨((cell_far (p := ⟨gb138, _, none⟩) NB144_138.out _).trans (((cell_far (p := ⟨gb138, _, none⟩) NB144_138.out _).trans (hHeld.1)))), ((cell_far (p := ⟨gb138, _, none⟩) NB144_138.out _).trans (((cell_far (p := ⟨gb138, _, none⟩) NB144_138.out _).trans (hHeld.2))))⟩ (fun hHeld => ?_)
           clear hK K
           refine pu 10 (some 3) #[true, true, true, true, true, true, true, true, true, true, true] ?_
           refine done_ (done_of HT_.out (by kernel_rfl)) ?_
           try go_wp2
           refine bodyPost_ret (results_ct rfl _ _ gb138 24 #[.int .i64 t143, .slice Ao55 x145001_2.length co55] (0, 0) _ rfl (by (with_reducible repeat (first | refine blk_drewN ?_ _ | refine blk_drew ?_ | refine blk_alloc ?_ _)); refine blk_put (cs := #[.int .i64 t143, .slice none 0 0]) ?_ 1 _ rfl; (with_reducible repeat (first | refine blk_drewN ?_ _ | refine blk_drew ?_ | refine blk_alloc ?_ _)); refine blk_put (cs := #[.int .i64 x139000_2, .slice none 0 0]) ?_ 0 _ rfl; (with_reducible repeat (first | refine blk_drewN ?_ _ | refine blk_drew ?_ | refine blk_alloc ?_ _)); exact BK138.out) Tryd.underlying24 rfl (by kernel_rfl)) rfl ?_
           exact ⟨_, rs, by (with_reducible repeat (first | apply Kd.R_alloc | apply Kd.R_drewN | apply Kd.R_drew)); exact Kd.R_mono (Kd.R_far (p := ⟨gb138, 1, none⟩) (Kd.R_far (p := ⟨gb138, 0, none⟩) (Kd.R_types HO_145001.out BK138.out (by decide)) (fun _ hk => hk.2) (.int .i64 t143)) (fun _ hk => hk.2) (.slice Ao55 x145001_2.length co55)) (fun _ hk => trivial), bw⟩
      ·rw [if_neg c13] at H
       have c13b0 : decide (0 < ((rdOf ByteArray.empty t139 1).size : Int)) = false := decide_eq_false c13
       have c13b1 : decide (0 < (rdOf ByteArray.empty t139 1).size) = false := decide_eq_false (by omega)
       clear c13
       replace H := Option.bind_eq_some_iff.mp H
       obtain ⟨t167, A590, H⟩ := H
       (try dsimp only at H)
       have A59 := Aside0.mk A590
       clear A590
       by_cases c60 : t167 = true
       ·subst c60
        rw [if_pos rfl] at H
        replace H := Option.bind_eq_some_iff.mp H
        obtain ⟨t168, A610, H⟩ := H
        (try dsimp only at H)
        have A61 := Aside0.mk A610
        clear A610
        simp only [Option.some.injEq, Prod.mk.injEq] at H
        obtain ⟨rfl, rfl, rfl⟩ := H
        obtain ⟨Ao62, co62, eo62⟩ := Kd.R_slice HO_4.out
        subst eo62
        have p142 : 0 ≤ (0 : Int) := (by omega)
        have q142 : 0 < (t139.length : Int) := of_decide_eq_true (by first | (with_reducible assumption) | assumption)
        obtain ⟨ad142, e142, hx142_0⟩ := Kd.at_string (Kd.R_reads' HO_4.out).2.2 0 p142 q142
        cases e142
        have qi142 : (0 < t139.length) = True := eq_true (by omega)
        (try rw [show ((0 : Int)).toNat = 0 from rfl] at hx142_0)
        (try rw [Addr.add_zero'] at hx142_0)
        replace p142 := eq_true p142
        replace q142 := eq_true q142
        try go_wp2_with (first | ((with_reducible refine gate_callee (f := 19) rfl ?_); refine gl (some 23) Tryd.func19 #[.string (rdOf ByteArray.empty t139 0)] ?_; (with_reducible refine (spec_l1Read.calls kj2 (rdOf ByteArray.empty t139 0) t143 _ A11.out).mono ?_); rintro e w' ⟨rfl, ⟨nd, rfl⟩⟩; refine ⟨_, rfl, ?_⟩; (try (rw [drewN_self wc]; generalize hq_ : World.drewN wc _ = wc; have n0_ : Aside0 (Kd.R Kd.string 9 wc w.heap.size (fun _ => True) (.slice (some ad142) t139.length co62) t139) := ⟨by rw [← hq_]; exact (pr HO_4)⟩; have n1_ : Aside0 (wc.heap[gb138]? = some (.cells #[.int .i64 0, .slice none 0 0] 24 (0, 0))) := ⟨by rw [← hq_]; exact (pk BK138)⟩; have n2_ : Aside0 (Below w.heap.size w wc) := ⟨by rw [← hq_]; exact bw⟩; clear HO_4 BK138 HB hq_; have HO_4 := n0_; have BK138 := n1_; have HB := n2_; clear n0_ n1_ n2_))) | ((with_reducible refine gate_dst (N := 5) rfl ?_); (try (refine gate_guard (by rfl) ?_; dsimp only)); refine bx 5 24 #[.int .i64 0, .slice none 0 0] ?_; intro gb144 hg w63 hbox hb; replace HO_4 := Aside0.mk (Kd.R_below (pr HO_4) hb); have BK144 := hbox; have GW144 := gs hg; have GE144 := gs hg; replace HB := bs hb; have NB138_144 := nl BK138 hg; have NB144_138 := ng BK138 hg; replace BK138 := nk BK138 hb; clear hb hbox hg; have hnb64 := NB144_138.out; have hnc64 := NB138_144.out; have hcz65_0 := bc BK144 0 (.int .i64 0); have hcz65_1 := bc BK144 1 (.slice none 0 0); have hfz65_0 := blk_frozen BK144.out 0; have hfz65_1 := blk_frozen BK144.out 1; have p145 : 0 ≤ (1 : Int) := (by omega); have q145 : 1 < (t139.length : Int) := of_decide_eq_true (by first | (with_reducible assumption) | assumption); obtain ⟨ad145, e145, hx145_0⟩ := Kd.at_string (Kd.R_reads' HO_4.out).2.2 1 p145 q145; obtain rfl : ad142 = ad145 := (by injection e145); (try simp only [show (1 : Int).toNat = 1 from rfl, Nat.reduceMul, Nat.reduceEqDiff, Go.Addr.add, ↓reduceIte] at hx145_0); have qi145 : (1 < t139.length) = True := eq_true (by omega); (try rw [show ((1 : Int)).toNat = 1 from rfl] at hx145_0); have hn145_0 : ad142.block ≠ gb144 := Kd.own_blk (Kd.R_ne HO_4.out BK144.out (by decide)); have hn145_1 : ad142.block ≠ gb144 := Kd.own_blk (Kd.R_ne HO_4.out BK144.out (by decide)); replace hx145_0 := (cell_far (p := ⟨gb144, 0, none⟩) (by first | (rw [add_block]; exact hn145_0) | (show (Addr.add _ _).block ≠ _; rw [add_block]; exact hn145_0) | exact hn145_0) (.int .i64 t143)).trans hx145_0; replace hx145_0 := (cell_far (p := ⟨gb144, 1, none⟩) (by first | (rw [add_block]; exact hn145_1) | (show (Addr.add _ _).block ≠ _; rw [add_block]; exact hn145_1) | exact hn145_1) (.slice none 0 0)).trans hx145_0; clear hn145_0; clear hn145_1; replace p145 := eq_true p145; replace q145 := eq_true q145))
        have n0_ : Aside0 (Kd.R Kd.string 9 ((w63.setCell ⟨gb144, 0, none⟩ (.int .i64 t143)).setCell ⟨gb144, 1, none⟩ (.slice none 0 0)) w.heap.size (fun _ => True) (.slice (some ad142) t139.length co62) t139) := ⟨by (with_reducible repeat (first | apply Kd.R_alloc | apply Kd.R_drewN | apply Kd.R_drew)); exact Kd.R_mono (Kd.R_far (p := ⟨gb144, 1, none⟩) (Kd.R_far (p := ⟨gb144, 0, none⟩) (Kd.R_types HO_4.out BK144.out (by decide)) (fun _ hk => hk.2) (.int .i64 t143)) (fun _ hk => hk.2) (.slice none 0 0)) (fun _ hk => trivial)⟩
        have n1_ : Aside0 (((w63.setCell ⟨gb144, 0, none⟩ (.int .i64 t143)).setCell ⟨gb144, 1, none⟩ (.slice none 0 0)).heap[gb138]? = some (.cells #[.int .i64 0, .slice none 0 0] 24 (0, 0))) := ⟨by (with_reducible repeat (first | refine blk_drewN ?_ _ | refine blk_drew ?_ | refine blk_alloc ?_ _)); refine blk_far ?_ NB138_144.out _; (with_reducible repeat (first | refine blk_drewN ?_ _ | refine blk_drew ?_ | refine blk_alloc ?_ _)); refine blk_far ?_ NB138_144.out _; (with_reducible repeat (first | refine blk_drewN ?_ _ | refine blk_drew ?_ | refine blk_alloc ?_ _)); exact BK138.out⟩
        have n2_ : Aside0 (((w63.setCell ⟨gb144, 0, none⟩ (.int .i64 t143)).setCell ⟨gb144, 1, none⟩ (.slice none 0 0)).heap[gb144]? = some (.cells #[.int .i64 t143, .slice none 0 0] 24 (0, 0))) := ⟨by (with_reducible repeat (first | refine blk_drewN ?_ _ | refine blk_drew ?_ | refine blk_alloc ?_ _)); refine blk_put (cs := #[.int .i64 t143, .slice none 0 0]) ?_ 1 _ rfl; (with_reducible repeat (first | refine blk_drewN ?_ _ | refine blk_drew ?_ | refine blk_alloc ?_ _)); refine blk_put (cs := #[.int .i64 0, .slice none 0 0]) ?_ 0 _ rfl; (with_reducible repeat (first | refine blk_drewN ?_ _ | refine blk_drew ?_ | refine blk_alloc ?_ _)); exact BK144.out⟩
        have n3_ : Aside0 (Below w.heap.size w ((w63.setCell ⟨gb144, 0, none⟩ (.int .i64 t143)).setCell ⟨gb144, 1, none⟩ (.slice none 0 0))) := ⟨bw⟩
        (try clear HO_4)
        (try clear BK138)
        (try clear BK144)
        (try clear HB)
        generalize ((w63.setCell ⟨gb144, 0, none⟩ (.int .i64 t143)).setCell ⟨gb144, 1, none⟩ (.slice none 0 0)) = w66 at n0_ n1_ n2_ n3_ ⊢
        have HO_4 := n0_
        have BK138 := n1_
        have BK144 := n2_
        have HB := n3_
        clear n0_ n1_ n2_ n3_
        replace HO_4 := Aside0.mk (Kd.R_drew HO_4.out)
        replace BK138 := Aside0.mk (blk_drew BK138.out)
        replace BK144 := Aside0.mk (blk_drew BK144.out)
        replace HB := Aside0.mk (below_drew1 HB.out)
        refine start_ (n := 11) (S := fun w' => w'.cell? ⟨gb144, 0, none⟩ = some (.int .i64 t143) ∧ w'.cell? ⟨gb144, 1, none⟩ = some (.slice none 0 0)) (ds := []) #[false, false, false, false, false, false, false, false, false, false, false] (by kernel_rfl) rfl rfl ⟨ec BK144, ec BK144⟩ (fun hHeld => ?_); refine with_tabW spec_pzParse.tab14 spec_pzParse.bits14 (fun HT_ HW_ => ?_)
        generalize w66.drew = w67 at HO_4 BK138 BK144 HB hHeld ⊢
        refine take_ (i := 0) (N := some 68) (v := ?_) (a' := ?_) #[true, false, false, false, false, false, false, false, false, false, false] rfl rfl (take_ofW HT_.out HW_.out (by kernel_rfl)) (fun _ _ _ h => h) (Or.inl ⟨by rfl, ?_⟩) hHeld ?_ ?_
        rotate_left
        ·rintro w' ⟨s0, s1⟩
         go_simp
         with_reducible rfl
        rotate_left
        ·simp only [Act.put, List.setIfInBounds_toArray, List.set_cons_zero, List.set_cons_succ, i64_w, i32_w]
         rfl
        refine take_ (i := 1) (N := some 69) (v := ?_) (a' := ?_) #[true, true, false, false, false, false, false, false, false, false, false] rfl rfl (take_ofW HT_.out HW_.out (by kernel_rfl)) (fun _ _ _ h => h) (Or.inl ⟨by rfl, ?_⟩) hHeld ?_ ?_
        rotate_left
        ·rintro w' ⟨s0, s1⟩
         go_simp
         with_reducible rfl
        rotate_left
        ·simp only [Act.put, List.setIfInBounds_toArray, List.set_cons_zero, List.set_cons_succ, i64_w, i32_w]
         rfl
        refine one_ (i := 2) (N := some 70) #[true, true, true, false, false, false, false, false, false, false, false] rfl rfl (one_of HT_.out (by kernel_rfl)) (by decide) (fun K hK => ?_)
        refine goes_ Tryd.func20 (by kernel_rfl) rfl #[.agg #[.int .i64 t143, .slice none 0 0]] (by rfl) rfl rfl (by (try simp only [List.map_toArray, List.map_cons, List.map_nil]); first | done | rfl | (simp only [List.length_drop, List.length_take]; rfl)) ?_
        refine (spec_pzGood.calls kj2 t143 _ _ ([] : List (S40)) true _ ?side1 ?side2 A59.out).mono ?_
        (case side1 => exact Kd.C_nil _ _)
        (case side2 => exact Nat.le_refl _)
        rintro e w68 ⟨rfl, hb⟩
        refine ⟨_, rfl, ?_⟩
        replace HO_4 := Aside0.mk (Kd.R_below (pr HO_4) hb)
        replace BK138 := nk BK138 hb
        replace BK144 := nk BK144 hb
        replace HB := bs hb
        (try clear hb)
        refine hK.out _ _ ⟨ec BK144, ec BK144⟩ (fun hHeld => ?_)
        clear hK K
        refine nm (some 70) ?_
        refine pu 3 (some 71) #[true, true, true, true, false, false, false, false, false, false, false] ?_
        refine pu 6 (some 74) #[true, true, true, true, false, false, true, false, false, false, false] ?_
        refine take_ (i := 4) (N := some 72) (v := ?_) (a' := ?_) #[true, true, true, true, true, false, true, false, false, false, false] rfl rfl (take_ofW HT_.out HW_.out (by kernel_rfl)) (fun _ _ _ h => h) (Or.inl ⟨by rfl, ?_⟩) hHeld ?_ ?_
        rotate_left
        ·rintro w' ⟨s0, s1⟩
         go_simp
         with_reducible rfl
        rotate_left
        ·simp only [Act.put, List.setIfInBounds_toArray, List.set_cons_zero, List.set_cons_succ, i64_w, i32_w]
         rfl
        refine one_ (i := 5) (N := some 73) #[true, true, true, true, true, true, true, false, false, false, false] rfl rfl (one_of HT_.out (by kernel_rfl)) (by decide) (fun K hK => ?_)
        refine goes_ Tryd.func21 (by kernel_rfl) rfl #[.agg #[.int .i64 t143, .slice none 0 0]] (by rfl) rfl rfl (by (try simp only [List.map_toArray, List.map_cons, List.map_nil]); first | done | rfl | (simp only [List.length_drop, List.length_take]; rfl)) ?_
        refine (spec_pzText.calls kj2 t143 _ _ ([] : List (S40)) t168 _ ?side1 ?side2 A61.out).mono ?_
        (case side1 => exact Kd.C_nil _ _)
        (case side2 => exact Nat.le_refl _)
        rintro e w69 ⟨rfl, hb⟩
        refine ⟨_, rfl, ?_⟩
        replace HO_4 := Aside0.mk (Kd.R_below (pr HO_4) hb)
        replace BK138 := nk BK138 hb
        replace BK144 := nk BK144 hb
        replace HB := bs hb
        (try clear hb)
        refine hK.out _ _ ⟨ec BK144, ec BK144⟩ (fun hHeld => ?_)
        clear hK K
        refine nm (some 73) ?_
        refine pu 7 (some 75) #[true, true, true, true, true, true, true, true, false, false, false] ?_
        refine pu 8 (some 76) #[true, true, true, true, true, true, true, true, true, false, false] ?_
        refine one_ (i := 9) (N := none) #[true, true, true, true, true, true, true, true, true, true, false] rfl rfl (one_of HT_.out (by kernel_rfl)) (by decide) (fun K hK => ?_)
        have hs70 : w69.cell? ⟨gb138, 0, none⟩ = some (.int .i64 0) := ec BK138
        have hfs70 := blk_frozen BK138.out 0
        have hns70_1 := NB144_138.out
        have hms70_1 := NB138_144.out
        have hs71 : w69.cell? ⟨gb138, 1, none⟩ = some (.slice none 0 0) := ec BK138
        have hfs71 := blk_frozen BK138.out 1
        have hns71_1 := NB144_138.out
        have hms71_1 := NB138_144.out
        refine skip_ (w1 := ?_) (by rfl) rfl ?_ ?_
        rotate_left
        ·go_simp
         rfl
        refine hK.out _ _ ⟨((cell_far (p := ⟨gb138, _, none⟩) NB144_138.out _).trans (((cell_far (p := ⟨gb138, _, none⟩) NB144_138.out _).trans (hHeld.1)))), ((cell_far (p := ⟨gb138, _, none⟩) NB144_138.out _).trans (((cell_far (p := ⟨gb138, _, none⟩) NB144_138.out _).trans (hHeld.2))))⟩ (fun hHeld => ?_)
        clear hK K
        refine pu 10 (some 3) #[true, true, true, true, true, true, true, true, true, true, true] ?_
        refine done_ (done_of HT_.out (by kernel_rfl)) ?_
        try go_wp2
        refine bodyPost_ret (results_ct rfl _ _ gb138 24 #[.int .i64 t143, .slice none 0 0] (0, 0) _ rfl (by (with_reducible repeat (first | refine blk_drewN ?_ _ | refine blk_drew ?_ | refine blk_alloc ?_ _)); refine blk_put (cs := #[.int .i64 t143, .slice none 0 0]) ?_ 1 _ rfl; (with_reducible repeat (first | refine blk_drewN ?_ _ | refine blk_drew ?_ | refine blk_alloc ?_ _)); refine blk_put (cs := #[.int .i64 0, .slice none 0 0]) ?_ 0 _ rfl; (with_reducible repeat (first | refine blk_drewN ?_ _ | refine blk_drew ?_ | refine blk_alloc ?_ _)); exact BK138.out) Tryd.underlying24 rfl (by kernel_rfl)) rfl ?_
        exact ⟨_, rs, by first | exact Kd.R_nil _ _ _ _ _ | exact Kd.N_nil _ _ _ _ _ | exact Kd.V_nil _ _ _ _ _ | exact Kd.Q_nil _ _ _ _ _ | exact Kd.S_nil _ _ _ _ _, bw⟩
       ·replace c60 := Bool.eq_false_iff.mpr c60
        subst c60
        rw [if_neg (show ¬ (false = true) by decide)] at H
        simp only [Option.some.injEq, Prod.mk.injEq] at H
        obtain ⟨rfl, rfl, rfl⟩ := H
        obtain ⟨Ao72, co72, eo72⟩ := Kd.R_slice HO_4.out
        subst eo72
        have p142 : 0 ≤ (0 : Int) := (by omega)
        have q142 : 0 < (t139.length : Int) := of_decide_eq_true (by first | (with_reducible assumption) | assumption)
        obtain ⟨ad142, e142, hx142_0⟩ := Kd.at_string (Kd.R_reads' HO_4.out).2.2 0 p142 q142
        cases e142
        have qi142 : (0 < t139.length) = True := eq_true (by omega)
        (try rw [show ((0 : Int)).toNat = 0 from rfl] at hx142_0)
        (try rw [Addr.add_zero'] at hx142_0)
        replace p142 := eq_true p142
        replace q142 := eq_true q142
        try go_wp2_with (first | ((with_reducible refine gate_callee (f := 19) rfl ?_); refine gl (some 23) Tryd.func19 #[.string (rdOf ByteArray.empty t139 0)] ?_; (with_reducible refine (spec_l1Read.calls kj2 (rdOf ByteArray.empty t139 0) t143 _ A11.out).mono ?_); rintro e w' ⟨rfl, ⟨nd, rfl⟩⟩; refine ⟨_, rfl, ?_⟩; (try (rw [drewN_self wc]; generalize hq_ : World.drewN wc _ = wc; have n0_ : Aside0 (Kd.R Kd.string 9 wc w.heap.size (fun _ => True) (.slice (some ad142) t139.length co72) t139) := ⟨by rw [← hq_]; exact (pr HO_4)⟩; have n1_ : Aside0 (wc.heap[gb138]? = some (.cells #[.int .i64 0, .slice none 0 0] 24 (0, 0))) := ⟨by rw [← hq_]; exact (pk BK138)⟩; have n2_ : Aside0 (Below w.heap.size w wc) := ⟨by rw [← hq_]; exact bw⟩; clear HO_4 BK138 HB hq_; have HO_4 := n0_; have BK138 := n1_; have HB := n2_; clear n0_ n1_ n2_))) | ((with_reducible refine gate_dst (N := 5) rfl ?_); (try (refine gate_guard (by rfl) ?_; dsimp only)); refine bx 5 24 #[.int .i64 0, .slice none 0 0] ?_; intro gb144 hg w73 hbox hb; replace HO_4 := Aside0.mk (Kd.R_below (pr HO_4) hb); have BK144 := hbox; have GW144 := gs hg; have GE144 := gs hg; replace HB := bs hb; have NB138_144 := nl BK138 hg; have NB144_138 := ng BK138 hg; replace BK138 := nk BK138 hb; clear hb hbox hg; have hnb74 := NB144_138.out; have hnc74 := NB138_144.out; have hcz75_0 := bc BK144 0 (.int .i64 0); have hcz75_1 := bc BK144 1 (.slice none 0 0); have hfz75_0 := blk_frozen BK144.out 0; have hfz75_1 := blk_frozen BK144.out 1; have p145 : 0 ≤ (1 : Int) := (by omega); have q145 : 1 < (t139.length : Int) := of_decide_eq_true (by first | (with_reducible assumption) | assumption); obtain ⟨ad145, e145, hx145_0⟩ := Kd.at_string (Kd.R_reads' HO_4.out).2.2 1 p145 q145; obtain rfl : ad142 = ad145 := (by injection e145); (try simp only [show (1 : Int).toNat = 1 from rfl, Nat.reduceMul, Nat.reduceEqDiff, Go.Addr.add, ↓reduceIte] at hx145_0); have qi145 : (1 < t139.length) = True := eq_true (by omega); (try rw [show ((1 : Int)).toNat = 1 from rfl] at hx145_0); have hn145_0 : ad142.block ≠ gb144 := Kd.own_blk (Kd.R_ne HO_4.out BK144.out (by decide)); have hn145_1 : ad142.block ≠ gb144 := Kd.own_blk (Kd.R_ne HO_4.out BK144.out (by decide)); replace hx145_0 := (cell_far (p := ⟨gb144, 0, none⟩) (by first | (rw [add_block]; exact hn145_0) | (show (Addr.add _ _).block ≠ _; rw [add_block]; exact hn145_0) | exact hn145_0) (.int .i64 t143)).trans hx145_0; replace hx145_0 := (cell_far (p := ⟨gb144, 1, none⟩) (by first | (rw [add_block]; exact hn145_1) | (show (Addr.add _ _).block ≠ _; rw [add_block]; exact hn145_1) | exact hn145_1) (.slice none 0 0)).trans hx145_0; clear hn145_0; clear hn145_1; replace p145 := eq_true p145; replace q145 := eq_true q145))
        have n0_ : Aside0 (Kd.R Kd.string 9 ((w73.setCell ⟨gb144, 0, none⟩ (.int .i64 t143)).setCell ⟨gb144, 1, none⟩ (.slice none 0 0)) w.heap.size (fun _ => True) (.slice (some ad142) t139.length co72) t139) := ⟨by (with_reducible repeat (first | apply Kd.R_alloc | apply Kd.R_drewN | apply Kd.R_drew)); exact Kd.R_mono (Kd.R_far (p := ⟨gb144, 1, none⟩) (Kd.R_far (p := ⟨gb144, 0, none⟩) (Kd.R_types HO_4.out BK144.out (by decide)) (fun _ hk => hk.2) (.int .i64 t143)) (fun _ hk => hk.2) (.slice none 0 0)) (fun _ hk => trivial)⟩
        have n1_ : Aside0 (((w73.setCell ⟨gb144, 0, none⟩ (.int .i64 t143)).setCell ⟨gb144, 1, none⟩ (.slice none 0 0)).heap[gb138]? = some (.cells #[.int .i64 0, .slice none 0 0] 24 (0, 0))) := ⟨by (with_reducible repeat (first | refine blk_drewN ?_ _ | refine blk_drew ?_ | refine blk_alloc ?_ _)); refine blk_far ?_ NB138_144.out _; (with_reducible repeat (first | refine blk_drewN ?_ _ | refine blk_drew ?_ | refine blk_alloc ?_ _)); refine blk_far ?_ NB138_144.out _; (with_reducible repeat (first | refine blk_drewN ?_ _ | refine blk_drew ?_ | refine blk_alloc ?_ _)); exact BK138.out⟩
        have n2_ : Aside0 (((w73.setCell ⟨gb144, 0, none⟩ (.int .i64 t143)).setCell ⟨gb144, 1, none⟩ (.slice none 0 0)).heap[gb144]? = some (.cells #[.int .i64 t143, .slice none 0 0] 24 (0, 0))) := ⟨by (with_reducible repeat (first | refine blk_drewN ?_ _ | refine blk_drew ?_ | refine blk_alloc ?_ _)); refine blk_put (cs := #[.int .i64 t143, .slice none 0 0]) ?_ 1 _ rfl; (with_reducible repeat (first | refine blk_drewN ?_ _ | refine blk_drew ?_ | refine blk_alloc ?_ _)); refine blk_put (cs := #[.int .i64 0, .slice none 0 0]) ?_ 0 _ rfl; (with_reducible repeat (first | refine blk_drewN ?_ _ | refine blk_drew ?_ | refine blk_alloc ?_ _)); exact BK144.out⟩
        have n3_ : Aside0 (Below w.heap.size w ((w73.setCell ⟨gb144, 0, none⟩ (.int .i64 t143)).setCell ⟨gb144, 1, none⟩ (.slice none 0 0))) := ⟨bw⟩
        (try clear HO_4)
        (try clear BK138)
        (try clear BK144)
        (try clear HB)
        generalize ((w73.setCell ⟨gb144, 0, none⟩ (.int .i64 t143)).setCell ⟨gb144, 1, none⟩ (.slice none 0 0)) = w76 at n0_ n1_ n2_ n3_ ⊢
        have HO_4 := n0_
        have BK138 := n1_
        have BK144 := n2_
        have HB := n3_
        clear n0_ n1_ n2_ n3_
        replace HO_4 := Aside0.mk (Kd.R_drew HO_4.out)
        replace BK138 := Aside0.mk (blk_drew BK138.out)
        replace BK144 := Aside0.mk (blk_drew BK144.out)
        replace HB := Aside0.mk (below_drew1 HB.out)
        refine start_ (n := 11) (S := fun w' => w'.cell? ⟨gb144, 0, none⟩ = some (.int .i64 t143) ∧ w'.cell? ⟨gb144, 1, none⟩ = some (.slice none 0 0)) (ds := []) #[false, false, false, false, false, false, false, false, false, false, false] (by kernel_rfl) rfl rfl ⟨ec BK144, ec BK144⟩ (fun hHeld => ?_); refine with_tabW spec_pzParse.tab14 spec_pzParse.bits14 (fun HT_ HW_ => ?_)
        generalize w76.drew = w77 at HO_4 BK138 BK144 HB hHeld ⊢
        refine take_ (i := 0) (N := some 68) (v := ?_) (a' := ?_) #[true, false, false, false, false, false, false, false, false, false, false] rfl rfl (take_ofW HT_.out HW_.out (by kernel_rfl)) (fun _ _ _ h => h) (Or.inl ⟨by rfl, ?_⟩) hHeld ?_ ?_
        rotate_left
        ·rintro w' ⟨s0, s1⟩
         go_simp
         with_reducible rfl
        rotate_left
        ·simp only [Act.put, List.setIfInBounds_toArray, List.set_cons_zero, List.set_cons_succ, i64_w, i32_w]
         rfl
        refine take_ (i := 1) (N := some 69) (v := ?_) (a' := ?_) #[true, true, false, false, false, false, false, false, false, false, false] rfl rfl (take_ofW HT_.out HW_.out (by kernel_rfl)) (fun _ _ _ h => h) (Or.inl ⟨by rfl, ?_⟩) hHeld ?_ ?_
        rotate_left
        ·rintro w' ⟨s0, s1⟩
         go_simp
         with_reducible rfl
        rotate_left
        ·simp only [Act.put, List.setIfInBounds_toArray, List.set_cons_zero, List.set_cons_succ, i64_w, i32_w]
         rfl
        refine one_ (i := 2) (N := some 70) #[true, true, true, false, false, false, false, false, false, false, false] rfl rfl (one_of HT_.out (by kernel_rfl)) (by decide) (fun K hK => ?_)
        refine goes_ Tryd.func20 (by kernel_rfl) rfl #[.agg #[.int .i64 t143, .slice none 0 0]] (by rfl) rfl rfl (by (try simp only [List.map_toArray, List.map_cons, List.map_nil]); first | done | rfl | (simp only [List.length_drop, List.length_take]; rfl)) ?_
        refine (spec_pzGood.calls kj2 t143 _ _ ([] : List (S40)) false _ ?side1 ?side2 A59.out).mono ?_
        (case side1 => exact Kd.C_nil _ _)
        (case side2 => exact Nat.le_refl _)
        rintro e w78 ⟨rfl, hb⟩
        refine ⟨_, rfl, ?_⟩
        replace HO_4 := Aside0.mk (Kd.R_below (pr HO_4) hb)
        replace BK138 := nk BK138 hb
        replace BK144 := nk BK144 hb
        replace HB := bs hb
        (try clear hb)
        refine hK.out _ _ ⟨ec BK144, ec BK144⟩ (fun hHeld => ?_)
        clear hK K
        refine nm (some 70) ?_
        refine pu 3 (some 71) #[true, true, true, true, false, false, false, false, false, false, false] ?_
        refine pure_ (i := 4) (N := some 72) (v := undef) (a' := ?_) #[true, true, true, true, true, false, false, false, false, false, false] rfl rfl (any_of HT_.out (by kernel_rfl)) (fun _ _ _ h => h) (Or.inr ⟨by rfl, rfl⟩) ?_ ?_
        rotate_left
        ·simp only [Act.put, List.setIfInBounds_toArray, List.set_cons_zero, List.set_cons_succ, i64_w, i32_w]
         rfl
        refine pure_ (i := 5) (N := some 73) (v := undef) (a' := ?_) #[true, true, true, true, true, true, false, false, false, false, false] rfl rfl (any_of HT_.out (by kernel_rfl)) (fun _ _ _ h => h) (Or.inr ⟨by rfl, rfl⟩) ?_ ?_
        rotate_left
        ·simp only [Act.put, List.setIfInBounds_toArray, List.set_cons_zero, List.set_cons_succ, i64_w, i32_w]
         rfl
        refine pure_ (i := 6) (N := some 74) (v := undef) (a' := ?_) #[true, true, true, true, true, true, true, false, false, false, false] rfl rfl (any_of HT_.out (by kernel_rfl)) (fun _ _ _ h => h) (Or.inr ⟨by rfl, rfl⟩) ?_ ?_
        rotate_left
        ·simp only [Act.put, List.setIfInBounds_toArray, List.set_cons_zero, List.set_cons_succ, i64_w, i32_w]
         rfl
        refine pure_ (i := 7) (N := some 75) (v := undef) (a' := ?_) #[true, true, true, true, true, true, true, true, false, false, false] rfl rfl (any_of HT_.out (by kernel_rfl)) (fun _ _ _ h => h) (Or.inr ⟨by rfl, rfl⟩) ?_ ?_
        rotate_left
        ·simp only [Act.put, List.setIfInBounds_toArray, List.set_cons_zero, List.set_cons_succ, i64_w, i32_w]
         rfl
        refine pu 8 (some 76) #[true, true, true, true, true, true, true, true, true, false, false] ?_
        refine one_ (i := 9) (N := none) #[true, true, true, true, true, true, true, true, true, true, false] rfl rfl (one_of HT_.out (by kernel_rfl)) (by decide) (fun K hK => ?_)
        have hs79 : w78.cell? ⟨gb138, 0, none⟩ = some (.int .i64 0) := ec BK138
        have hfs79 := blk_frozen BK138.out 0
        have hns79_1 := NB144_138.out
        have hms79_1 := NB138_144.out
        have hs80 : w78.cell? ⟨gb138, 1, none⟩ = some (.slice none 0 0) := ec BK138
        have hfs80 := blk_frozen BK138.out 1
        have hns80_1 := NB144_138.out
        have hms80_1 := NB138_144.out
        refine skip_ (w1 := ?_) (by rfl) rfl ?_ ?_
        rotate_left
        ·go_simp
         rfl
        refine hK.out _ _ ⟨((cell_far (p := ⟨gb138, _, none⟩) NB144_138.out _).trans (((cell_far (p := ⟨gb138, _, none⟩) NB144_138.out _).trans (hHeld.1)))), ((cell_far (p := ⟨gb138, _, none⟩) NB144_138.out _).trans (((cell_far (p := ⟨gb138, _, none⟩) NB144_138.out _).trans (hHeld.2))))⟩ (fun hHeld => ?_)
        clear hK K
        refine pu 10 (some 3) #[true, true, true, true, true, true, true, true, true, true, true] ?_
        refine done_ (done_of HT_.out (by kernel_rfl)) ?_
        try go_wp2
        refine bodyPost_ret (results_ct rfl _ _ gb138 24 #[.int .i64 t143, .slice none 0 0] (0, 0) _ rfl (by (with_reducible repeat (first | refine blk_drewN ?_ _ | refine blk_drew ?_ | refine blk_alloc ?_ _)); refine blk_put (cs := #[.int .i64 t143, .slice none 0 0]) ?_ 1 _ rfl; (with_reducible repeat (first | refine blk_drewN ?_ _ | refine blk_drew ?_ | refine blk_alloc ?_ _)); refine blk_put (cs := #[.int .i64 0, .slice none 0 0]) ?_ 0 _ rfl; (with_reducible repeat (first | refine blk_drewN ?_ _ | refine blk_drew ?_ | refine blk_alloc ?_ _)); exact BK138.out) Tryd.underlying24 rfl (by kernel_rfl)) rfl ?_
        exact ⟨_, rs, by first | exact Kd.R_nil _ _ _ _ _ | exact Kd.N_nil _ _ _ _ _ | exact Kd.V_nil _ _ _ _ _ | exact Kd.Q_nil _ _ _ _ _ | exact Kd.S_nil _ _ _ _ _, bw⟩
     ·rw [if_neg c12] at H
      exact absurd H (by simp)
    ·rw [if_neg c10] at H
     exact absurd H (by simp)

end Go.Proofs.YthblgfiijakjlaaDoor.PFnExactParsePuzzle
