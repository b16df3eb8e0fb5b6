-- Laid by xprint, a program of this session that runs over the kit's print.
import Derived.Test.YtfaakdokcldnkaaGreatDoorPFnRowsGuessedOfAllx17
namespace Go.Proofs.YtfaakdokcldnkaaGreatDoor.PFnRowsGuessedOfAll
open Go.RowKit Go.Proofs.YtfaakdokcldnkaaGreatDoorW.PrintWords Go.Proofs.YtfaakdokcldnkaaGreatDoorW.PrintLast Go.Proofs.YtfaakdokcldnkaaGreatDoorW.PrintMore Go.Proofs.YtfaakdokcldnkaaGreatDoor.Sq
attribute [local go_sem] max2_int min2_int max_two min_two max_three min_three max_four min_four   -- for this text's walks alone
set_option linter.unusedVariables false
set_option linter.unusedSimpArgs false

attribute [local go_sem high] eqA42
/-! ### laws_vPuzzle: function 31 -/
mutual
def laws_vPuzzle.j0 : Nat → Bool → Int → List (S42) → Int → List (S42) → Option (Bool)
  | 0, _, _, _, _, _ => none
  | k + 1, x19, x440000, x440001, x441000, x441001 => if x19 = true then (some false) else (laws_vPuzzle.l0 k (x440001.length : Int) 0 x440000 x440001 x441000 x441001)
def laws_vPuzzle.l0 : Nat → Int → Int → Int → List (S42) → Int → List (S42) → Option (Bool)
  | 0, _, _, _, _, _, _ => none
  | k + 1, x22, x23, x440000, x440001, x441000, x441001 => if x23 < x22 then (if 0 ≤ x23 then (if x23 < (x440001.length : Int) then (if x23 < (x441001.length : Int) then (if (!(((rd_T42 x440001 x23).f0) == ((rd_T42 x441001 x23).f0)) || (!(((rd_T42 x440001 x23).f1) == ((rd_T42 x441001 x23).f1)) || (!(((rd_T42 x440001 x23).f2) == ((rd_T42 x441001 x23).f2)) || (!(((rd_T42 x440001 x23).f3) == ((rd_T42 x441001 x23).f3)))))) = true then (some false) else (laws_vPuzzle.l0 k x22 (wrap64 (x23 + 1)) x440000 x440001 x441000 x441001)) else (none)) else (none)) else (none)) else (some true)
end
def laws_vPuzzle.f (k : Nat) (a0_0 : Int) (l0_1 : List (S42)) (a1_0 : Int) (l1_1 : List (S42)) : Option (Bool) := if a0_0 = a1_0 then (laws_vPuzzle.j0 k ((l0_1.length : Int) != (l1_1.length : Int)) a0_0 l0_1 a1_0 l1_1) else (laws_vPuzzle.j0 k true a0_0 l0_1 a1_0 l1_1)
theorem laws_vPuzzle.mono_l : ∀ k, (∀ y0 y1 y2 y3 y4, LeO (laws_vPuzzle.j0 k y0 y1 y2 y3 y4) (laws_vPuzzle.j0 (k + 1) y0 y1 y2 y3 y4)) ∧ (∀ y0 y1 y2 y3 y4 y5, LeO (laws_vPuzzle.l0 k y0 y1 y2 y3 y4 y5) (laws_vPuzzle.l0 (k + 1) y0 y1 y2 y3 y4 y5))
  | 0 => ⟨fun _ _ _ _ _ r h => by simp [laws_vPuzzle.j0] at h, fun _ _ _ _ _ _ r h => by simp [laws_vPuzzle.l0] at h⟩
  | k + 1 => by
    obtain ⟨ih0, ih1⟩ := laws_vPuzzle.mono_l k
    refine ⟨?q0, ?q1⟩
    case' q0 => (intros; unfold laws_vPuzzle.j0)
    case' q1 => (intros; unfold laws_vPuzzle.l0)
    all_goals repeat' first
     | (with_reducible exact ih0 _ _ _ _ _)
     | (with_reducible exact ih1 _ _ _ _ _ _)
     | (with_reducible exact LeO.refl _)
     | (with_reducible exact LeO.none _)
     | (with_reducible refine LeO.ite ?_ ?_)
     | (with_reducible refine LeO.bind ?_ (fun _ => ?_))
     | exact ih0 _ _ _ _ _
     | exact ih1 _ _ _ _ _ _
     | exact LeO.none _
     | refine LeO.ite ?_ ?_
     | refine LeO.bind ?_ (fun _ => ?_)
theorem laws_vPuzzle.mono : ∀ a0 a1 a2 a3 k, LeO (laws_vPuzzle.f k a0 a1 a2 a3) (laws_vPuzzle.f (k + 1) a0 a1 a2 a3) := by
  intro a0 a1 a2 a3 k
  obtain ⟨ih0, ih1⟩ := laws_vPuzzle.mono_l k
  unfold laws_vPuzzle.f
  repeat' first
      | (with_reducible exact ih0 _ _ _ _ _)
      | (with_reducible exact ih1 _ _ _ _ _ _)
      | (with_reducible exact LeO.refl _)
      | (with_reducible exact LeO.none _)
      | (with_reducible refine LeO.ite ?_ ?_)
      | (with_reducible refine LeO.bind ?_ (fun _ => ?_))
      | exact ih0 _ _ _ _ _
      | exact ih1 _ _ _ _ _ _
      | exact LeO.none _
      | refine LeO.ite ?_ ?_
      | refine LeO.bind ?_ (fun _ => ?_)
set_option maxHeartbeats 8000000 in
set_option maxRecDepth 100000 in
theorem laws_vPuzzle.calls (k : Nat) (a0_0 : Int) (A0_1 : Option Addr) (c0_1 : Nat) (l0_1 : List (S42)) (a1_0 : Int) (A1_1 : Option Addr) (c1_1 : Nat) (l1_1 : List (S42)) (r : Bool) (w : World) (hr0_1 : Kd.C k42 w A0_1 l0_1.length l0_1) (hc0_1 : l0_1.length ≤ c0_1) (hr1_1 : Kd.C k42 w A1_1 l1_1.length l1_1) (hc1_1 : l1_1.length ≤ c1_1) (h : laws_vPuzzle.f k a0_0 l0_1 a1_0 l1_1 = some r) :
  Calls Tryz.prog 31 #[.agg #[.int .i64 a0_0, .slice A0_1 l0_1.length c0_1], .agg #[.int .i64 a1_0, .slice A1_1 l1_1.length c1_1]] w fun e w' => e = .returned (.bool r) ∧ Below w.heap.size w w' := by
 have hu24 := Tryz.underlying24
 have hu42 := Tryz.underlying42
 have HR0_1 := Aside0.mk hr0_1
 have HC0_1 := Aside0.mk hc0_1
 clear hr0_1 hc0_1
 have HR1_1 := Aside0.mk hr1_1
 have HC1_1 := Aside0.mk hc1_1
 clear hr1_1 hc1_1
 have HB := Aside0.mk (Below.refl w.heap.size w)
 unfold laws_vPuzzle.f at h
 have H := h
 clear h
 have HC3 := Aside0.mk H
 clear H
 go_enter Tryz.func31, Tryz.ntmps31
 iterate 16 ((try go_upto_region 1 with (first | ((with_reducible refine gd 2 ?_); (try (refine gate_guard (by rfl) ?_; dsimp only)); refine bx 2 24 #[.int .i64 a0_0, .slice A0_1 l0_1.length c0_1] ?_; intro gb439 hg w4 hbox hb; have BK439 := hbox; have GW439 := gs hg; have GE439 := gs hg; replace HB := bs hb; clear hb hbox hg) | ((with_reducible refine gd 3 ?_); (try (refine gate_guard (by rfl) ?_; dsimp only)); refine bx 3 24 #[.int .i64 a1_0, .slice A1_1 l1_1.length c1_1] ?_; intro gb440 hg w5 hbox hb; have BK440 := hbox; have GW440 := gs hg; have GE440 := gs hg; replace HB := bs hb; have ⟨NB439_440, NB440_439⟩ := nn BK439 hg; replace BK439 := nk BK439 hb; clear hb hbox hg))); (try go_quiet (fail)))
 (try simp only [Act.put, List.setIfInBounds_toArray, List.set_cons_zero, List.set_cons_succ])
 go_cut [19] (fun v19 wc => ∃ (kq : Nat) (x19_2 : Bool), v19 = .bool x19_2 ∧ Aside0 (laws_vPuzzle.j0 kq x19_2 a0_0 l0_1 a1_0 l1_1 = some r) ∧ Aside0 (kq ≤ k) ∧ Aside0 (wc.heap[gb439]? = some (.cells #[.int .i64 a0_0, (.slice A0_1 l0_1.length c0_1)] 24 (0, 0))) ∧ Aside0 (wc.heap[gb440]? = some (.cells #[.int .i64 a1_0, (.slice A1_1 l1_1.length c1_1)] 24 (0, 0))) ∧ Aside0 (Below w.heap.size w wc))
 case first =>
  have H := HC3.out
  clear HC3
  by_cases c6 : a0_0 = a1_0
  ·rw [if_pos c6] at H
   have c6b0 : (a0_0 == a1_0) = true := beq_iff_eq.mpr c6
   have c6b1 : (a0_0 != a1_0) = false := bne_eq_false_iff_eq.mpr c6
   clear c6
   (first | rw [c6b0] | rw [@decide_eq_true _ _ (of_decide_eq_true c6b1)] | rw [@decide_eq_false _ _ (of_decide_eq_false c6b1)] | (simp only [i64_w, i32_w]; rw [c6b0]) | skip)
   have H' := Aside0.mk H
   clear H
   have hnb7 := nb NB439_440
   obtain ⟨hcz8_0, hcz8_1, hfz8_0, hfz8_1⟩ := z2 BK439
   obtain ⟨hcz9_0, hcz9_1, hfz9_0, hfz9_1⟩ := z2 BK440
   go_wp2
   repeat (go_quiet (fail); try go_wp2)
   go_meet
   case rel => exact ⟨_, (((l0_1.length : Int) != (l1_1.length : Int))), (rs), H', ⟨by first | omega | exact Nat.le_refl _⟩, ⟨pk BK439⟩, ⟨pk BK440⟩, ⟨bw⟩⟩
  rw [if_neg c6] at H
  have c6b0 : (a0_0 == a1_0) = false := beq_eq_false_iff_ne.mpr c6
  have c6b1 : (a0_0 != a1_0) = true := bne_iff_ne.mpr c6
  (first | rw [c6b0] | rw [@decide_eq_true _ _ (of_decide_eq_true c6b1)] | rw [@decide_eq_false _ _ (of_decide_eq_false c6b1)] | (simp only [i64_w, i32_w]; rw [c6b0]) | skip)
  have H' := Aside0.mk H
  clear H
  have hnb10 := nb NB439_440
  obtain ⟨hcz11_0, hcz11_1, hfz11_0, hfz11_1⟩ := z2 BK439
  obtain ⟨hcz12_0, hcz12_1, hfz12_0, hfz12_1⟩ := z2 BK440
  go_wp2
  repeat (go_quiet (fail); try go_wp2)
  go_meet
  case rel => exact ⟨_, (true), (rs), H', ⟨by first | omega | exact Nat.le_refl _⟩, ⟨pk BK439⟩, ⟨pk BK440⟩, ⟨bw⟩⟩
 case rest =>
  clear HC3
  try clear c1
  try clear p2
  try clear c3
  try clear c6
  try clear c6b0
  try clear c6b1
  try clear c7
  try clear c10
  try clear hcz11_0
  try clear hcz11_1
  try clear hcz12_0
  try clear hcz12_1
  try clear hcz8_0
  try clear hcz8_1
  try clear hcz9_0
  try clear hcz9_1
  try clear hfz11_0
  try clear hfz11_1
  try clear hfz12_0
  try clear hfz12_1
  try clear hfz8_0
  try clear hfz8_1
  try clear hfz9_0
  try clear hfz9_1
  obtain ⟨kq, x19_2, rfl, HA, HJ2, BK439, BK440, HB⟩ := hcut
  cases kq with
  | zero => exact absurd HA.out (by simp [laws_vPuzzle.j0])
  | succ kj2 =>
   have H := HA.out
   clear HA
   simp only [laws_vPuzzle.j0] at H
   by_cases c13 : x19_2 = true
   ·subst c13
    rw [if_pos rfl] at H
    obtain rfl := Option.some.inj H
    go_wp2
    repeat (go_quiet (fail); try go_wp2)
    go_ret
    exact ⟨rs, bw⟩
   replace c13 := Bool.eq_false_iff.mpr c13
   subst c13
   rw [if_neg (show ¬ (false = true) by decide)] at H
   have H' := Aside0.mk H
   clear H
   have hnb14 := nb NB439_440
   have hcz15_0 : wc.cell? ⟨gb439, 0, none⟩ = some (.int .i64 a0_0) := ec BK439
   have hcz15_1 : wc.cell? ⟨gb439, 1, none⟩ = some (.slice A0_1 l0_1.length c0_1) := ec BK439
   have hfz15_0 := blk_frozen BK439.out 0
   have hfz15_1 := blk_frozen BK439.out 1
   go_wp2
   repeat (go_quiet (fail); try go_wp2)
   go_loopg [23] kj2 (fun kq v23 w' => ∃ (x23_2 : Int), v23 = .int .i64 x23_2 ∧ Aside0 (laws_vPuzzle.l0 kq (l0_1.length : Int) x23_2 a0_0 l0_1 a1_0 l1_1 = some r) ∧ Aside0 (kq ≤ kj2) ∧ Aside0 (w'.heap[gb439]? = some (.cells #[.int .i64 a0_0, (.slice A0_1 l0_1.length c0_1)] 24 (0, 0))) ∧ Aside0 (w'.heap[gb440]? = some (.cells #[.int .i64 a1_0, (.slice A1_1 l1_1.length c1_1)] 24 (0, 0))) ∧ Aside0 (Below w.heap.size w w'))
   case atStart => exact ⟨(0), (rs), H', ⟨Nat.le_refl _⟩, ⟨pk BK439⟩, ⟨pk BK440⟩, ⟨bw⟩⟩
   case round =>
    clear H'
    try clear c1
    try clear p2
    try clear c3
    try clear c6
    try clear c6b0
    try clear c6b1
    try clear c7
    try clear c10
    try clear c13
    try clear c14
    try clear hcz11_0
    try clear hcz11_1
    try clear hcz12_0
    try clear hcz12_1
    try clear hcz15_0
    try clear hcz15_1
    try clear hcz8_0
    try clear hcz8_1
    try clear hcz9_0
    try clear hcz9_1
    try clear hfz11_0
    try clear hfz11_1
    try clear hfz12_0
    try clear hfz12_1
    try clear hfz15_0
    try clear hfz15_1
    try clear hfz8_0
    try clear hfz8_1
    try clear hfz9_0
    try clear hfz9_1
    try clear p2
    obtain ⟨x23_2, rfl, HA, HK2, BK439, BK440, HB⟩ := hrel
    cases gk with
    | zero => exact absurd HA.out (by simp [laws_vPuzzle.l0])
    | succ k2 =>
     have H := HA.out
     clear HA
     simp only [laws_vPuzzle.l0] at H
     by_cases c16 : x23_2 < (l0_1.length : Int)
     ·rw [if_pos c16] at H
      have c16b0 := decide_eq_true c16
      clear c16
      obtain ⟨c17, H⟩ := oi H
      have c17b0 := decide_eq_true c17
      clear c17
      obtain ⟨c18, H⟩ := oi H
      have c18b0 := decide_eq_true c18
      clear c18
      obtain ⟨c19, H⟩ := oi H
      have c19b0 := decide_eq_true c19
      clear c19
      by_cases c20 : (!(((rd_T42 l0_1 x23_2).f0) == ((rd_T42 l1_1 x23_2).f0)) || (!(((rd_T42 l0_1 x23_2).f1) == ((rd_T42 l1_1 x23_2).f1)) || (!(((rd_T42 l0_1 x23_2).f2) == ((rd_T42 l1_1 x23_2).f2)) || (!(((rd_T42 l0_1 x23_2).f3) == ((rd_T42 l1_1 x23_2).f3)))))) = true
      ·rw [if_pos c20] at H
       have c20b0 : (!(((rd_T42 l0_1 x23_2).f0) == ((rd_T42 l1_1 x23_2).f0)) || (!(((rd_T42 l0_1 x23_2).f1) == ((rd_T42 l1_1 x23_2).f1)) || (!(((rd_T42 l0_1 x23_2).f2) == ((rd_T42 l1_1 x23_2).f2)) || (!(((rd_T42 l0_1 x23_2).f3) == ((rd_T42 l1_1 x23_2).f3)))))) = true := c20
       clear c20
       obtain rfl := Option.some.inj H
       have hnb21 := nb NB439_440
       have hcz22_0 : wr.cell? ⟨gb439, 0, none⟩ = some (.int .i64 a0_0) := ec BK439
       have hcz22_1 : wr.cell? ⟨gb439, 1, none⟩ = some (.slice A0_1 l0_1.length c0_1) := ec BK439
       have hfz22_0 := blk_frozen BK439.out 0
       have hfz22_1 := blk_frozen BK439.out 1
       have p441 : 0 ≤ (x23_2 : Int) := of_decide_eq_true asm
       have q441 : x23_2 < (l0_1.length : Int) := of_decide_eq_true asm
       obtain ⟨ad441, e441, hx441_0, hx441_1, hx441_2, hx441_3⟩ := at_T42 HR0_1.out x23_2 p441 q441
       cases e441
       replace hx441_0 := (HB.out.cell (World.block_lt_of_cell? w _ hx441_0)).trans hx441_0
       replace hx441_1 := (HB.out.cell (World.block_lt_of_cell? w _ hx441_1)).trans hx441_1
       replace hx441_2 := (HB.out.cell (World.block_lt_of_cell? w _ hx441_2)).trans hx441_2
       replace hx441_3 := (HB.out.cell (World.block_lt_of_cell? w _ hx441_3)).trans hx441_3
       replace p441 := eq_true p441
       replace q441 := eq_true q441
       have hcz23_0 : wr.cell? ⟨gb440, 0, none⟩ = some (.int .i64 a1_0) := ec BK440
       have hcz23_1 : wr.cell? ⟨gb440, 1, none⟩ = some (.slice A1_1 l1_1.length c1_1) := ec BK440
       have hfz23_0 := blk_frozen BK440.out 0
       have hfz23_1 := blk_frozen BK440.out 1
       have p442 : 0 ≤ (x23_2 : Int) := of_decide_eq_true asm
       have q442 : x23_2 < (l1_1.length : Int) := of_decide_eq_true asm
       obtain ⟨ad442, e442, hx442_0, hx442_1, hx442_2, hx442_3⟩ := at_T42 HR1_1.out x23_2 p442 q442
       cases e442
       replace hx442_0 := (HB.out.cell (World.block_lt_of_cell? w _ hx442_0)).trans hx442_0
       replace hx442_1 := (HB.out.cell (World.block_lt_of_cell? w _ hx442_1)).trans hx442_1
       replace hx442_2 := (HB.out.cell (World.block_lt_of_cell? w _ hx442_2)).trans hx442_2
       replace hx442_3 := (HB.out.cell (World.block_lt_of_cell? w _ hx442_3)).trans hx442_3
       replace p442 := eq_true p442
       replace q442 := eq_true q442
       go_wp2
       repeat (go_quiet (fail); try go_wp2)
       go_ret
       exact ⟨rs, bw⟩
      rw [if_neg c20] at H
      have c20b0 : (!(((rd_T42 l0_1 x23_2).f0) == ((rd_T42 l1_1 x23_2).f0)) || (!(((rd_T42 l0_1 x23_2).f1) == ((rd_T42 l1_1 x23_2).f1)) || (!(((rd_T42 l0_1 x23_2).f2) == ((rd_T42 l1_1 x23_2).f2)) || (!(((rd_T42 l0_1 x23_2).f3) == ((rd_T42 l1_1 x23_2).f3)))))) = false := by simpa using c20
      clear c20
      have H' := Aside0.mk H
      clear H
      have hnb24 := nb NB439_440
      have hcz25_0 : wr.cell? ⟨gb439, 0, none⟩ = some (.int .i64 a0_0) := ec BK439
      have hcz25_1 : wr.cell? ⟨gb439, 1, none⟩ = some (.slice A0_1 l0_1.length c0_1) := ec BK439
      have hfz25_0 := blk_frozen BK439.out 0
      have hfz25_1 := blk_frozen BK439.out 1
      have p441 : 0 ≤ (x23_2 : Int) := of_decide_eq_true asm
      have q441 : x23_2 < (l0_1.length : Int) := of_decide_eq_true asm
      obtain ⟨ad441, e441, hx441_0, hx441_1, hx441_2, hx441_3⟩ := at_T42 HR0_1.out x23_2 p441 q441
      cases e441
      replace hx441_0 := (HB.out.cell (World.block_lt_of_cell? w _ hx441_0)).trans hx441_0
      replace hx441_1 := (HB.out.cell (World.block_lt_of_cell? w _ hx441_1)).trans hx441_1
      replace hx441_2 := (HB.out.cell (World.block_lt_of_cell? w _ hx441_2)).trans hx441_2
      replace hx441_3 := (HB.out.cell (World.block_lt_of_cell? w _ hx441_3)).trans hx441_3
      replace p441 := eq_true p441
      replace q441 := eq_true q441
      have hcz26_0 : wr.cell? ⟨gb440, 0, none⟩ = some (.int .i64 a1_0) := ec BK440
      have hcz26_1 : wr.cell? ⟨gb440, 1, none⟩ = some (.slice A1_1 l1_1.length c1_1) := ec BK440
      have hfz26_0 := blk_frozen BK440.out 0
      have hfz26_1 := blk_frozen BK440.out 1
      have p442 : 0 ≤ (x23_2 : Int) := of_decide_eq_true asm
      have q442 : x23_2 < (l1_1.length : Int) := of_decide_eq_true asm
      obtain ⟨ad442, e442, hx442_0, hx442_1, hx442_2, hx442_3⟩ := at_T42 HR1_1.out x23_2 p442 q442
      cases e442
      replace hx442_0 := (HB.out.cell (World.block_lt_of_cell? w _ hx442_0)).trans hx442_0
      replace hx442_1 := (HB.out.cell (World.block_lt_of_cell? w _ hx442_1)).trans hx442_1
      replace hx442_2 := (HB.out.cell (World.block_lt_of_cell? w _ hx442_2)).trans hx442_2
      replace hx442_3 := (HB.out.cell (World.block_lt_of_cell? w _ hx442_3)).trans hx442_3
      replace p442 := eq_true p442
      replace q442 := eq_true q442
      go_wp2
      repeat (go_quiet (fail); try go_wp2)
      go_roundg k2
      case measure => have := HJ2.out; have := HK2.out; omega
      case rel => exact ⟨(wrap64 (x23_2 + 1)), (rs), H', ⟨by have := HJ2.out; have := HK2.out; omega⟩, ⟨pk BK439⟩, ⟨pk BK440⟩, ⟨bw⟩⟩
     rw [if_neg c16] at H
     have c16b0 := decide_eq_false c16
     clear c16
     obtain rfl := Option.some.inj H
     go_wp2
     repeat (go_quiet (fail); try go_wp2)
     go_ret
     exact ⟨rs, bw⟩

/-! ### spec_l1Split: function 70 -/
def spec_l1Split.l0 : Nat → ByteArray → Int → List ByteArray → Int → Int → Option (List ByteArray)
  | 0, _, _, _, _, _ => none
  | k + 1, x0, x1, x5, x6, x7 => if x7 < (x0.size : Int) then (if 0 ≤ x7 then (if (bt x0 x7) = x1 then (if 0 ≤ x6 then (if x6 ≤ x7 then (if x7 ≤ (x0.size : Int) then (if x5.length < 8796093022208 then (spec_l1Split.l0 k x0 x1 (x5 ++ [x0.extract (x6 : Int).toNat (x7 : Int).toNat]) (wrap64 (x7 + 1)) (wrap64 (x7 + 1))) else (none)) else (none)) else (none)) else (none)) else (spec_l1Split.l0 k x0 x1 x5 x6 (wrap64 (x7 + 1)))) else (none)) else (if 0 ≤ x6 then (if x6 ≤ (x0.size : Int) then (if x5.length < 8796093022208 then (some (x5 ++ [x0.extract (x6 : Int).toNat x0.size])) else (none)) else (none)) else (none))
def spec_l1Split.f (k : Nat) (a0 : ByteArray) (a1 : Int) : Option (List ByteArray) := spec_l1Split.l0 k a0 a1 ([] : List ByteArray) 0 0
theorem spec_l1Split.mono_l : ∀ k, (∀ y0 y1 y2 y3 y4, LeO (spec_l1Split.l0 k y0 y1 y2 y3 y4) (spec_l1Split.l0 (k + 1) y0 y1 y2 y3 y4))
  | 0 => fun _ _ _ _ _ r h => by simp [spec_l1Split.l0] at h
  | k + 1 => by
    have ih0 := spec_l1Split.mono_l k
    · intro y0 y1 y2 y3 y4
      unfold spec_l1Split.l0
      repeat' first
      | (with_reducible exact ih0 _ _ _ _ _)
      | (with_reducible exact LeO.refl _)
      | (with_reducible exact LeO.none _)
      | (with_reducible refine LeO.ite ?_ ?_)
      | (with_reducible refine LeO.bind ?_ (fun _ => ?_))
      | exact ih0 _ _ _ _ _
      | exact LeO.none _
      | refine LeO.ite ?_ ?_
      | refine LeO.bind ?_ (fun _ => ?_)
theorem spec_l1Split.mono : ∀ a0 a1 k, LeO (spec_l1Split.f k a0 a1) (spec_l1Split.f (k + 1) a0 a1) := by
  intro a0 a1 k
  have ih0 := spec_l1Split.mono_l k
  unfold spec_l1Split.f
  repeat' first
      | (with_reducible exact ih0 _ _ _ _ _)
      | (with_reducible exact LeO.refl _)
      | (with_reducible exact LeO.none _)
      | (with_reducible refine LeO.ite ?_ ?_)
      | (with_reducible refine LeO.bind ?_ (fun _ => ?_))
      | exact ih0 _ _ _ _ _
      | exact LeO.none _
      | refine LeO.ite ?_ ?_
      | refine LeO.bind ?_ (fun _ => ?_)
set_option maxHeartbeats 8000000 in
set_option maxRecDepth 100000 in
theorem spec_l1Split.calls (k : Nat) (a0 : ByteArray) (a1 : Int) (r : List ByteArray) (w : World) (h : spec_l1Split.f k a0 a1 = some r) :
  Calls Tryz.prog 70 #[.string a0, .int .u8 a1] w fun e w' => ∃ v0_ : Value, e = .returned (v0_) ∧ Kd.R Kd.string 9 w' w.heap.size (fun _ => True) v0_ r ∧ Below w.heap.size w w' := by
 have HB := Aside0.mk (Below.refl w.heap.size w)
 unfold spec_l1Split.f at h
 have H := h
 clear h
 have H' := Aside0.mk H
 clear H
 go_enter Tryz.func70, Tryz.ntmps70
 go_wp2
 go_loopg [5, 6, 7] k (fun kq v5 v6 v7 w' => ∃ (x5_1 : List ByteArray) (x6_1 : Int) (x7_1 : Int), v6 = .int .i64 x6_1 ∧ v7 = .int .i64 x7_1 ∧ Aside0 (spec_l1Split.l0 kq a0 a1 x5_1 x6_1 x7_1 = some r) ∧ Aside0 (kq ≤ k) ∧ Aside0 (Kd.R Kd.string 9 w' w.heap.size (fun _ => True) v5 x5_1) ∧ Aside0 (Below w.heap.size w w'))
 case atStart => exact ⟨(([] : List ByteArray)), (0), (0), (rs), (rs), H', ⟨Nat.le_refl _⟩, ⟨by first | exact Kd.R_nil _ _ _ _ _ | exact Kd.N_nil _ _ _ _ _ | exact Kd.V_nil _ _ _ _ _ | exact Kd.Q_nil _ _ _ _ _ | exact Kd.S_nil _ _ _ _ _⟩, ⟨bw⟩⟩
 case round =>
  clear H'
  try clear p2
  obtain ⟨x5_1, x6_1, x7_1, rfl, rfl, HA, HK1, HO_5, HB⟩ := hrel
  cases gk with
  | zero => exact absurd HA.out (by simp [spec_l1Split.l0])
  | succ k1 =>
   have H := HA.out
   clear HA
   simp only [spec_l1Split.l0] at H
   by_cases c3 : x7_1 < (a0.size : Int)
   ·rw [if_pos c3] at H
    have c3b0 := decide_eq_true c3
    clear c3
    obtain ⟨c4, H⟩ := oi H
    have c4b0 := decide_eq_true c4
    clear c4
    by_cases c6 : (bt a0 x7_1) = a1
    ·rw [if_pos c6] at H
     have c6b0 : ((bt a0 x7_1) == a1) = true := beq_iff_eq.mpr c6
     have c6b1 : ((bt a0 x7_1) != a1) = false := bne_eq_false_iff_eq.mpr c6
     clear c6
     obtain ⟨c7, H⟩ := oi H
     have c7b0 := eq_true c7
     have c7b1 := decide_eq_true c7
     clear c7
     obtain ⟨c8, H⟩ := oi H
     have c8b0 := eq_true c8
     have c8b1 := decide_eq_true c8
     clear c8
     obtain ⟨c9, H⟩ := oi H
     have c9b0 := eq_true c9
     have c9b1 := decide_eq_true c9
     clear c9
     obtain ⟨c10, H⟩ := oi H
     have LMc10 := Aside0.mk c10
     clear c10
     obtain ⟨y443, hy443⟩ : ∃ y_ : List ByteArray, y_ = (x5_1 ++ [a0.extract (x6_1 : Int).toNat (x7_1 : Int).toNat]) := ⟨_, rfl⟩
     replace H : (spec_l1Split.l0 k1 a0 a1 y443 (wrap64 (x7_1 + 1)) (wrap64 (x7_1 + 1))) = some r := by first | (rw [hy443]; with_reducible exact H) | (have H2_ := (Option.bind_some _ _).symm.trans H; rw [hy443]; with_reducible exact H2_) | (have H2_ := (Option.bind_some _ _).symm.trans H; with_reducible exact H2_) | with_reducible exact H | (rw [hy443]; exact H) | exact H
     have Ny443 := Aside0.mk hy443
     clear hy443
     have H' := Aside0.mk H
     clear H
     have p5 : 0 ≤ (x7_1 : Int) := of_decide_eq_true asm
     have q5 : x7_1 < (a0.size : Int) := of_decide_eq_true asm
     have hx5 := bt_at a0 x7_1
     replace p5 := eq_true p5
     replace q5 := eq_true q5
     go_wp2_with (first | ((with_reducible refine gate_builtin (b := .append) (xs := #[.tmp 19, .tmp 24]) rfl ?_); at_builtin; refine Kd.R_append Kd.string (w0 := w) w.heap.size rfl (.tmp 19) (.tmp 24) 25 9 (.string ⟨#[]⟩) 16 rfl Tryz.underlying25 info9 rfl (by decide) (by omega) u5 x5_1 (a0.extract (x6_1 : Int).toNat (x7_1 : Int).toNat) [.string (a0.extract (x6_1 : Int).toNat (x7_1 : Int).toNat)] (fun _ => True) (fun _ => False) rfl rfl ?aP (fun _ hk => hk.elim) ?aF ?aO ?aB ?aS ?aL ?_; (case aP => exact rfl); (case aB => exact bw); (case aF => exact (fun _ _ => trivial)); (case aO => exact (pr HO_5)); (case aS => exact (below_size bw)); (case aL => have := LMc10.out; omega); intro v444 w11 ho hb hg hat; rw [← Ny443.out] at ho; have n0_ := Aside0.mk (hb); have n1_ := Aside0.mk (ho); clear HB; clear HO_5; have HB := n0_; have HO445 := n1_; clear n0_ n1_; clear ho hb hg hat))
     go_roundg k1
     case measure => have := HK1.out; omega
     case rel => exact ⟨(y443), (wrap64 (x7_1 + 1)), (wrap64 (x7_1 + 1)), (rs), (rs), H', ⟨by have := HK1.out; omega⟩, ⟨pr HO445⟩, ⟨bw⟩⟩
    rw [if_neg c6] at H
    have c6b0 : ((bt a0 x7_1) == a1) = false := beq_eq_false_iff_ne.mpr c6
    have c6b1 : ((bt a0 x7_1) != a1) = true := bne_iff_ne.mpr c6
    have H' := Aside0.mk H
    clear H
    have p5 : 0 ≤ (x7_1 : Int) := of_decide_eq_true asm
    have q5 : x7_1 < (a0.size : Int) := of_decide_eq_true asm
    have hx5 := bt_at a0 x7_1
    replace p5 := eq_true p5
    replace q5 := eq_true q5
    go_wp2
    go_roundg k1
    case measure => have := HK1.out; omega
    case rel => exact ⟨(x5_1), (x6_1), (wrap64 (x7_1 + 1)), (rs), (rs), H', ⟨by have := HK1.out; omega⟩, ⟨pr HO_5⟩, ⟨bw⟩⟩
   rw [if_neg c3] at H
   have c3b0 := decide_eq_false c3
   clear c3
   obtain ⟨c12, H⟩ := oi H
   have c12b0 := eq_true c12
   have c12b1 := decide_eq_true c12
   clear c12
   obtain ⟨c13, H⟩ := oi H
   have c13b0 := eq_true c13
   have c13b1 := decide_eq_true c13
   clear c13
   obtain ⟨c14, H⟩ := oi H
   have LMc14 := Aside0.mk c14
   clear c14
   obtain ⟨y446, hy446⟩ : ∃ y_ : List ByteArray, y_ = (x5_1 ++ [a0.extract (x6_1 : Int).toNat a0.size]) := ⟨_, rfl⟩
   replace H : (some y446) = some r := by first | (rw [hy446]; with_reducible exact H) | (have H2_ := (Option.bind_some _ _).symm.trans H; rw [hy446]; with_reducible exact H2_) | (have H2_ := (Option.bind_some _ _).symm.trans H; with_reducible exact H2_) | with_reducible exact H | (rw [hy446]; exact H) | exact H
   have Ny446 := Aside0.mk hy446
   clear hy446
   obtain rfl := Option.some.inj H
   go_wp2_with (first | ((with_reducible refine gate_builtin (b := .append) (xs := #[.tmp 28, .tmp 32]) rfl ?_); at_builtin; refine Kd.R_append Kd.string (w0 := w) w.heap.size rfl (.tmp 28) (.tmp 32) 25 9 (.string ⟨#[]⟩) 16 rfl Tryz.underlying25 info9 rfl (by decide) (by omega) u5 x5_1 (a0.extract (x6_1 : Int).toNat a0.size) [.string (a0.extract (x6_1 : Int).toNat a0.size)] (fun _ => True) (fun _ => False) rfl rfl ?aP (fun _ hk => hk.elim) ?aF ?aO ?aB ?aS ?aL ?_; (case aP => exact rfl); (case aB => exact bw); (case aF => exact (fun _ _ => trivial)); (case aO => exact (pr HO_5)); (case aS => exact (below_size bw)); (case aL => have := LMc14.out; omega); intro v447 w15 ho hb hg hat; rw [← Ny446.out] at ho; have n0_ := Aside0.mk (hb); have n1_ := Aside0.mk (ho); clear HB; clear HO_5; have HB := n0_; have HO448 := n1_; clear n0_ n1_; clear ho hb hg hat))
   go_ret
   exact ⟨_, rs, pr HO448, bw⟩
/-! ### spec_l1Read: function 71 -/
mutual
def spec_l1Read.j0 : Nat → ByteArray → Bool → Option (Int)
  | 0, _, _ => none
  | k + 1, x0, x18 => if x18 = true then (some (-1)) else (spec_l1Read.l0 k x0 0 0)
def spec_l1Read.l0 : Nat → ByteArray → Int → Int → Option (Int)
  | 0, _, _, _ => none
  | k + 1, x0, x3, x4 => if x4 < (x0.size : Int) then (if 0 ≤ x4 then (if (bt x0 x4) < 48 then (some (-1)) else (if (bt x0 x4) > 57 then (some (-1)) else (spec_l1Read.l0 k x0 (wrap64 ((wrap64 (10 * x3)) + (((bt x0 x4) - 48) % 256))) (wrap64 (x4 + 1))))) else (none)) else (some x3)
end
def spec_l1Read.f (k : Nat) (a0 : ByteArray) : Option (Int) := (spec_l1In.f (a0.size : Int) 1 6).bind fun t449 => (if t449 = true then (if 0 < (a0.size : Int) then (if (bt a0 0) = 48 then (spec_l1Read.j0 k a0 (decide ((a0.size : Int) > 1))) else (spec_l1Read.j0 k a0 false)) else (none)) else (spec_l1Read.j0 k a0 true))
theorem spec_l1Read.mono_l : ∀ k, (∀ y0 y1, LeO (spec_l1Read.j0 k y0 y1) (spec_l1Read.j0 (k + 1) y0 y1)) ∧ (∀ y0 y1 y2, LeO (spec_l1Read.l0 k y0 y1 y2) (spec_l1Read.l0 (k + 1) y0 y1 y2))
  | 0 => ⟨fun _ _ r h => by simp [spec_l1Read.j0] at h, fun _ _ _ r h => by simp [spec_l1Read.l0] at h⟩
  | k + 1 => by
    obtain ⟨ih0, ih1⟩ := spec_l1Read.mono_l k
    refine ⟨?q0, ?q1⟩
    case' q0 => (intros; unfold spec_l1Read.j0)
    case' q1 => (intros; unfold spec_l1Read.l0)
    all_goals repeat' first
     | (with_reducible exact ih0 _ _)
     | (with_reducible exact ih1 _ _ _)
     | (with_reducible exact LeO.refl _)
     | (with_reducible exact LeO.none _)
     | (with_reducible refine LeO.ite ?_ ?_)
     | (with_reducible refine LeO.bind ?_ (fun _ => ?_))
     | exact ih0 _ _
     | exact ih1 _ _ _
     | exact LeO.none _
     | refine LeO.ite ?_ ?_
     | refine LeO.bind ?_ (fun _ => ?_)
theorem spec_l1Read.mono : ∀ a0 k, LeO (spec_l1Read.f k a0) (spec_l1Read.f (k + 1) a0) := by
  intro a0 k
  obtain ⟨ih0, ih1⟩ := spec_l1Read.mono_l k
  unfold spec_l1Read.f
  repeat' first
      | (with_reducible exact ih0 _ _)
      | (with_reducible exact ih1 _ _ _)
      | (with_reducible exact LeO.refl _)
      | (with_reducible exact LeO.none _)
      | (with_reducible refine LeO.ite ?_ ?_)
      | (with_reducible refine LeO.bind ?_ (fun _ => ?_))
      | exact ih0 _ _
      | exact ih1 _ _ _
      | exact LeO.none _
      | refine LeO.ite ?_ ?_
      | refine LeO.bind ?_ (fun _ => ?_)
set_option maxHeartbeats 8000000 in
set_option maxRecDepth 100000 in
theorem spec_l1Read.calls (k : Nat) (a0 : ByteArray) (r : Int) (w : World) (h : spec_l1Read.f k a0 = some r) :
  Calls Tryz.prog 71 #[.string a0] w fun e w' => e = .returned (.int .i64 r) ∧ Drawn0 w w' := by
 unfold spec_l1Read.f at h
 have H := h
 clear h
 have HC2 := Aside0.mk H
 clear H
 go_enter Tryz.func71, Tryz.ntmps71
 go_upto_region 1 with (fail)
 go_cut [18] (fun v18 wc => ∃ (kq : Nat) (x18_1 : Bool), v18 = .bool x18_1 ∧ Aside0 (spec_l1Read.j0 kq a0 x18_1 = some r) ∧ Aside0 (kq ≤ k) ∧ Drawn0 w wc)
 case first =>
  have H := HC2.out
  clear HC2
  obtain ⟨t449, A3, H⟩ := ob H
  (try dsimp only at H)
  by_cases c4 : t449 = true
  ·subst c4
   rw [if_pos rfl] at H
   obtain ⟨c5, H⟩ := oi H
   have c5b0 := decide_eq_true c5
   have c5b1 : decide (0 < a0.size) = true := decide_eq_true (by omega)
   clear c5
   (first | rw [c5b0] | rw [@decide_eq_true _ _ (of_decide_eq_true c5b1)] | rw [@decide_eq_false _ _ (of_decide_eq_false c5b1)] | (simp only [i64_w, i32_w]; rw [c5b0]) | skip)
   by_cases c7 : (bt a0 0) = 48
   ·rw [if_pos c7] at H
    have c7b0 : ((bt a0 0) == 48) = true := beq_iff_eq.mpr c7
    have c7b1 : ((bt a0 0) != 48) = false := bne_eq_false_iff_eq.mpr c7
    clear c7
    have H' := Aside0.mk H
    clear H
    go_wp2_with (first | ((with_reducible refine gc 73 ?_); refine gl (some 7) Tryz.func73 #[.int .i64 (a0.size : Int), .int .i64 1, .int .i64 6] ?_; (with_reducible refine (spec_l1In.calls (a0.size : Int) 1 6 true _ A3.out).mono ?_); rintro e w' ⟨rfl, ⟨nd, rfl⟩⟩; refine ⟨_, rfl, ?_⟩; have p6 : 0 ≤ (0 : Int) := (by omega); have q6 : 0 < a0.size := (by have : (0 : Int) < (a0.size : Int) := of_decide_eq_true asm; omega); have hx6 : ∀ h : 0 < a0.size, ((a0[0]'h).toNat : Int) = bt a0 0 := bt_at a0 0; clear p6; have qi6 : (0 < (a0.size : Int)) = True := eq_true (of_decide_eq_true asm); replace q6 := eq_true q6))
    go_meet
    case rel => exact ⟨_, (decide ((a0.size : Int) > 1)), (rs), H', ⟨by first | omega | exact Nat.le_refl _⟩, by repeat (first | exact Drawn0.refl _ | apply Drawn0.step)⟩
   rw [if_neg c7] at H
   have c7b0 : ((bt a0 0) == 48) = false := beq_eq_false_iff_ne.mpr c7
   have c7b1 : ((bt a0 0) != 48) = true := bne_iff_ne.mpr c7
   have H' := Aside0.mk H
   clear H
   go_wp2_with (first | ((with_reducible refine gc 73 ?_); refine gl (some 7) Tryz.func73 #[.int .i64 (a0.size : Int), .int .i64 1, .int .i64 6] ?_; (with_reducible refine (spec_l1In.calls (a0.size : Int) 1 6 true _ A3.out).mono ?_); rintro e w' ⟨rfl, ⟨nd, rfl⟩⟩; refine ⟨_, rfl, ?_⟩; have p6 : 0 ≤ (0 : Int) := (by omega); have q6 : 0 < a0.size := (by have : (0 : Int) < (a0.size : Int) := of_decide_eq_true asm; omega); have hx6 : ∀ h : 0 < a0.size, ((a0[0]'h).toNat : Int) = bt a0 0 := bt_at a0 0; clear p6; have qi6 : (0 < (a0.size : Int)) = True := eq_true (of_decide_eq_true asm); replace q6 := eq_true q6))
   go_meet
   case rel => exact ⟨_, (false), (rs), H', ⟨by first | omega | exact Nat.le_refl _⟩, by repeat (first | exact Drawn0.refl _ | apply Drawn0.step)⟩
  replace c4 := Bool.eq_false_iff.mpr c4
  subst c4
  rw [if_neg (show ¬ (false = true) by decide)] at H
  have H' := Aside0.mk H
  clear H
  go_wp2_with (first | ((with_reducible refine gc 73 ?_); refine gl (some 7) Tryz.func73 #[.int .i64 (a0.size : Int), .int .i64 1, .int .i64 6] ?_; (with_reducible refine (spec_l1In.calls (a0.size : Int) 1 6 false _ A3.out).mono ?_); rintro e w' ⟨rfl, ⟨nd, rfl⟩⟩; refine ⟨_, rfl, ?_⟩))
  go_meet
  case rel => exact ⟨_, (true), (rs), H', ⟨by first | omega | exact Nat.le_refl _⟩, by repeat (first | exact Drawn0.refl _ | apply Drawn0.step)⟩
 case rest =>
  clear HC2
  try clear p2
  try clear c4
  try clear c5
  try clear c5b0
  try clear c5b1
  try clear p6
  try clear q6
  try clear hx6
  try clear qi6
  try clear c7
  try clear c7b0
  try clear c7b1
  try clear p6
  try clear q6
  obtain ⟨kq, x18_1, rfl, HA, HJ1, ⟨mc1, rfl⟩⟩ := hcut
  cases kq with
  | zero => exact absurd HA.out (by simp [spec_l1Read.j0])
  | succ kj1 =>
   have H := HA.out
   clear HA
   simp only [spec_l1Read.j0] at H
   by_cases c8 : x18_1 = true
   ·subst c8
    rw [if_pos rfl] at H
    obtain rfl := Option.some.inj H
    go_wp2
    go_ret
    exact ⟨rs, by repeat (first | exact Drawn0.refl _ | apply Drawn0.step)⟩
   replace c8 := Bool.eq_false_iff.mpr c8
   subst c8
   rw [if_neg (show ¬ (false = true) by decide)] at H
   have H' := Aside0.mk H
   clear H
   go_wp2
   go_loopg [3, 4] kj1 (fun kq v3 v4 w' => ∃ (x3_2 : Int) (x4_2 : Int), v3 = .int .i64 x3_2 ∧ v4 = .int .i64 x4_2 ∧ Aside0 (spec_l1Read.l0 kq a0 x3_2 x4_2 = some r) ∧ Aside0 (kq ≤ kj1) ∧ Drawn0 w w')
   case atStart => exact ⟨(0), (0), (rs), (rs), H', ⟨Nat.le_refl _⟩, by repeat (first | exact Drawn0.refl _ | apply Drawn0.step)⟩
   case round =>
    clear H'
    try clear c1
    try clear p2
    try clear c4
    try clear c5
    try clear c5b0
    try clear c5b1
    try clear p6
    try clear q6
    try clear hx6
    try clear qi6
    try clear c7
    try clear c7b0
    try clear c7b1
    try clear c8
    try clear p2
    try clear p6
    try clear q6
    obtain ⟨x3_2, x4_2, rfl, rfl, HA, HK2, ⟨m2, rfl⟩⟩ := hrel
    cases gk with
    | zero => exact absurd HA.out (by simp [spec_l1Read.l0])
    | succ k2 =>
     have H := HA.out
     clear HA
     simp only [spec_l1Read.l0] at H
     by_cases c9 : x4_2 < (a0.size : Int)
     ·rw [if_pos c9] at H
      have c9b0 := decide_eq_true c9
      clear c9
      obtain ⟨c10, H⟩ := oi H
      have c10b0 := decide_eq_true c10
      clear c10
      by_cases c12 : (bt a0 x4_2) < 48
      ·rw [if_pos c12] at H
       have c12b0 := decide_eq_true c12
       clear c12
       obtain rfl := Option.some.inj H
       have p11 : 0 ≤ (x4_2 : Int) := of_decide_eq_true asm
       have q11 : x4_2 < (a0.size : Int) := of_decide_eq_true asm
       have hx11 := bt_at a0 x4_2
       replace p11 := eq_true p11
       replace q11 := eq_true q11
       go_wp2
       go_ret
       exact ⟨rs, by repeat (first | exact Drawn0.refl _ | apply Drawn0.step)⟩
      rw [if_neg c12] at H
      have c12b0 := decide_eq_false c12
      clear c12
      by_cases c14 : (bt a0 x4_2) > 57
      ·rw [if_pos c14] at H
       have c14b0 := decide_eq_true c14
       clear c14
       obtain rfl := Option.some.inj H
       have p11 : 0 ≤ (x4_2 : Int) := of_decide_eq_true asm
       have q11 : x4_2 < (a0.size : Int) := of_decide_eq_true asm
       have hx11 := bt_at a0 x4_2
       replace p11 := eq_true p11
       replace q11 := eq_true q11
       have p13 : 0 ≤ (x4_2 : Int) := of_decide_eq_true asm
       have q13 : x4_2 < (a0.size : Int) := of_decide_eq_true asm
       have hx13 := bt_at a0 x4_2
       replace p13 := eq_true p13
       replace q13 := eq_true q13
       go_wp2
       go_ret
       exact ⟨rs, by repeat (first | exact Drawn0.refl _ | apply Drawn0.step)⟩
      rw [if_neg c14] at H
      have c14b0 := decide_eq_false c14
      clear c14
      have H' := Aside0.mk H
      clear H
      have p11 : 0 ≤ (x4_2 : Int) := of_decide_eq_true asm
      have q11 : x4_2 < (a0.size : Int) := of_decide_eq_true asm
      have hx11 := bt_at a0 x4_2
      replace p11 := eq_true p11
      replace q11 := eq_true q11
      have p13 : 0 ≤ (x4_2 : Int) := of_decide_eq_true asm
      have q13 : x4_2 < (a0.size : Int) := of_decide_eq_true asm
      have hx13 := bt_at a0 x4_2
      replace p13 := eq_true p13
      replace q13 := eq_true q13
      have p15 : 0 ≤ (x4_2 : Int) := of_decide_eq_true asm
      have q15 : x4_2 < (a0.size : Int) := of_decide_eq_true asm
      have hx15 := bt_at a0 x4_2
      replace p15 := eq_true p15
      replace q15 := eq_true q15
      go_wp2
      go_roundg k2
      case measure => have := HJ1.out; have := HK2.out; omega
      case rel => exact ⟨(wrap64 ((wrap64 (10 * x3_2)) + (((bt a0 x4_2) - 48) % 256))), (wrap64 (x4_2 + 1)), (rs), (rs), H', ⟨by have := HJ1.out; have := HK2.out; omega⟩, by repeat (first | exact Drawn0.refl _ | apply Drawn0.step)⟩
     rw [if_neg c9] at H
     have c9b0 := decide_eq_false c9
     clear c9
     obtain rfl := Option.some.inj H
     go_wp2
     go_ret
     exact ⟨rs, by repeat (first | exact Drawn0.refl _ | apply Drawn0.step)⟩

end Go.Proofs.YtfaakdokcldnkaaGreatDoor.PFnRowsGuessedOfAll
