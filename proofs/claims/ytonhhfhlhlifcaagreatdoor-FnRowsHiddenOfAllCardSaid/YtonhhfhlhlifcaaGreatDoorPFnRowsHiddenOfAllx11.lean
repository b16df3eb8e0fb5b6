-- Laid by xprint, a program of this session that runs over the kit's print.
import Derived.Test.YtonhhfhlhlifcaaGreatDoorPFnRowsHiddenOfAllx10
namespace Go.Proofs.YtonhhfhlhlifcaaGreatDoor.PFnRowsHiddenOfAll
open Go.RowKit Go.Proofs.YtonhhfhlhlifcaaGreatDoorW.PrintWords Go.Proofs.YtonhhfhlhlifcaaGreatDoorW.PrintLast Go.Proofs.YtonhhfhlhlifcaaGreatDoorW.PrintMore Go.Proofs.YtonhhfhlhlifcaaGreatDoor.Sq
attribute [local go_sem] max2_int min2_int max_two min_two max_three min_three max_four min_four   -- for this text's walks alone
set_option linter.unusedVariables false
set_option linter.unusedSimpArgs false

/-! ### spec_pzGood: function 47 -/
mutual
def spec_pzGood.j0 : Nat → Bool → Int → List (S26) → Option (Bool)
  | 0, _, _, _ => none
  | k + 1, x14, x254000, x254001 => if x14 = true then (some false) else (spec_pzGood.l0 k x254001 (x254001.length : Int) 0 x254000 x254001)
def spec_pzGood.l0 : Nat → List (S26) → Int → Int → Int → List (S26) → Option (Bool)
  | 0, _, _, _, _, _ => none
  | k + 1, x16, x17, x18, x254000, x254001 => if x18 < x17 then (if 0 ≤ x18 then (if x18 < (x16.length : Int) then ((spec_pzClue.f x254000 ((rd_T26 x16 x18).f0) ((rd_T26 x16 x18).f1) ((rd_T26 x16 x18).f2) ((rd_T26 x16 x18).f3)).bind fun t257 => (if t257 = true then (spec_pzGood.l0 k x16 x17 (wrap64 (x18 + 1)) x254000 x254001) else (some false))) else (none)) else (none)) else (some true)
end
def spec_pzGood.f (k : Nat) (a0_0 : Int) (l0_1 : List (S26)) : Option (Bool) := (spec_pzSoldiers.f a0_0).bind fun t254 => (if t254 = true then (spec_pzGood.j0 k (decide ((l0_1.length : Int) > 6)) a0_0 l0_1) else (spec_pzGood.j0 k true a0_0 l0_1))
theorem spec_pzGood.mono_l : ∀ k, (∀ y0 y1 y2, LeO (spec_pzGood.j0 k y0 y1 y2) (spec_pzGood.j0 (k + 1) y0 y1 y2)) ∧ (∀ y0 y1 y2 y3 y4, LeO (spec_pzGood.l0 k y0 y1 y2 y3 y4) (spec_pzGood.l0 (k + 1) y0 y1 y2 y3 y4))
  | 0 => ⟨fun _ _ _ r h => by simp [spec_pzGood.j0] at h, fun _ _ _ _ _ r h => by simp [spec_pzGood.l0] at h⟩
  | k + 1 => by
    obtain ⟨ih0, ih1⟩ := spec_pzGood.mono_l k
    refine ⟨?q0, ?q1⟩
    case' q0 => (intros; unfold spec_pzGood.j0)
    case' q1 => (intros; unfold spec_pzGood.l0)
    all_goals repeat' first
     | (with_reducible exact ih0 _ _ _)
     | (with_reducible exact ih1 _ _ _ _ _)
     | (with_reducible exact LeO.refl _)
     | (with_reducible exact LeO.none _)
     | (with_reducible refine LeO.ite ?_ ?_)
     | (with_reducible refine LeO.bind ?_ (fun _ => ?_))
     | exact ih0 _ _ _
     | exact ih1 _ _ _ _ _
     | exact LeO.none _
     | refine LeO.ite ?_ ?_
     | refine LeO.bind ?_ (fun _ => ?_)
theorem spec_pzGood.mono : ∀ a0 a1 k, LeO (spec_pzGood.f k a0 a1) (spec_pzGood.f (k + 1) a0 a1) := by
  intro a0 a1 k
  obtain ⟨ih0, ih1⟩ := spec_pzGood.mono_l k
  unfold spec_pzGood.f
  repeat' first
      | (with_reducible exact ih0 _ _ _)
      | (with_reducible exact ih1 _ _ _ _ _)
      | (with_reducible exact LeO.refl _)
      | (with_reducible exact LeO.none _)
      | (with_reducible refine LeO.ite ?_ ?_)
      | (with_reducible refine LeO.bind ?_ (fun _ => ?_))
      | exact ih0 _ _ _
      | exact ih1 _ _ _ _ _
      | exact LeO.none _
      | refine LeO.ite ?_ ?_
      | refine LeO.bind ?_ (fun _ => ?_)
set_option maxHeartbeats 8000000 in
set_option maxRecDepth 100000 in
theorem spec_pzGood.calls (k : Nat) (a0_0 : Int) (A0_1 : Option Addr) (c0_1 : Nat) (l0_1 : List (S26)) (r : Bool) (w : World) (hr0_1 : Kd.C k26 w A0_1 l0_1.length l0_1) (hc0_1 : l0_1.length ≤ c0_1) (h : spec_pzGood.f k a0_0 l0_1 = some r) :
  Calls Tryz.prog 47 #[.agg #[.int .i64 a0_0, .slice A0_1 l0_1.length c0_1]] w fun e w' => e = .returned (.bool r) ∧ Below w.heap.size w w' := by
 have hu24 := Tryz.underlying24
 have hu26 := Tryz.underlying26
 have HR0_1 := Aside0.mk hr0_1
 have HC0_1 := Aside0.mk hc0_1
 clear hr0_1 hc0_1
 have HB := Aside0.mk (Below.refl w.heap.size w)
 unfold spec_pzGood.f at h
 have H := h
 clear h
 have HC2 := Aside0.mk H
 clear H
 go_enter Tryz.func47, Tryz.ntmps47
 go_upto_region 1 with (first | ((with_reducible refine gd 1 ?_); (try (refine gate_guard (by rfl) ?_; dsimp only)); refine bx 1 24 #[.int .i64 a0_0, .slice A0_1 l0_1.length c0_1] ?_; intro gb253 hg w3 hbox hb; have BK253 := hbox; have GW253 := gs hg; have GE253 := gs hg; replace HB := bs hb; clear hb hbox hg))
 (try simp only [Act.put, List.setIfInBounds_toArray, List.set_cons_zero, List.set_cons_succ])
 go_cut [14] (fun v14 wc => ∃ (kq : Nat) (x14_1 : Bool), v14 = .bool x14_1 ∧ Aside0 (spec_pzGood.j0 kq x14_1 a0_0 l0_1 = some r) ∧ Aside0 (kq ≤ k) ∧ Aside0 (wc.heap[gb253]? = some (.cells #[.int .i64 a0_0, (.slice A0_1 l0_1.length c0_1)] 24 (0, 0))) ∧ Aside0 (Below w.heap.size w wc))
 case first =>
  have H := HC2.out
  clear HC2
  obtain ⟨t254, A4, H⟩ := ob H
  (try dsimp only at H)
  by_cases c5 : t254 = true
  ·subst c5
   rw [if_pos rfl] at H
   have H' := Aside0.mk H
   clear H
   obtain ⟨hcz6_0, hcz6_1, hfz6_0, hfz6_1⟩ := z2 BK253
   go_wp2_with (first | ((with_reducible refine gc 52 ?_); refine gl (some 7) Tryz.func52 #[.int .i64 a0_0] ?_; (with_reducible refine (spec_pzSoldiers.calls a0_0 true _ A4.out).mono ?_); rintro e w' ⟨rfl, ⟨nd, rfl⟩⟩; refine ⟨_, rfl, ?_⟩))
   go_meet
   case rel => exact ⟨_, (decide ((l0_1.length : Int) > 6)), (rs), H', ⟨by first | omega | exact Nat.le_refl _⟩, ⟨pk BK253⟩, ⟨bw⟩⟩
  replace c5 := Bool.eq_false_iff.mpr c5
  subst c5
  rw [if_neg (show ¬ (false = true) by decide)] at H
  have H' := Aside0.mk H
  clear H
  obtain ⟨hcz7_0, hcz7_1, hfz7_0, hfz7_1⟩ := z2 BK253
  go_wp2_with (first | ((with_reducible refine gc 52 ?_); refine gl (some 7) Tryz.func52 #[.int .i64 a0_0] ?_; (with_reducible refine (spec_pzSoldiers.calls a0_0 false _ A4.out).mono ?_); rintro e w' ⟨rfl, ⟨nd, rfl⟩⟩; refine ⟨_, rfl, ?_⟩))
  go_meet
  case rel => exact ⟨_, (true), (rs), H', ⟨by first | omega | exact Nat.le_refl _⟩, ⟨pk BK253⟩, ⟨bw⟩⟩
 case rest =>
  clear HC2
  try clear p2
  try clear c4
  try clear c5
  try clear hcz6_0
  try clear hcz6_1
  try clear hcz7_0
  try clear hcz7_1
  try clear hfz6_0
  try clear hfz6_1
  try clear hfz7_0
  try clear hfz7_1
  obtain ⟨kq, x14_1, rfl, HA, HJ1, BK253, HB⟩ := hcut
  cases kq with
  | zero => exact absurd HA.out (by simp [spec_pzGood.j0])
  | succ kj1 =>
   have H := HA.out
   clear HA
   simp only [spec_pzGood.j0] at H
   by_cases c8 : x14_1 = true
   ·subst c8
    rw [if_pos rfl] at H
    obtain rfl := Option.some.inj H
    go_wp2
    go_ret
    exact ⟨rs, bw⟩
   replace c8 := Bool.eq_false_iff.mpr c8
   subst c8
   rw [if_neg (show ¬ (false = true) by decide)] at H
   have H' := Aside0.mk H
   clear H
   have hcz9_0 : wc.cell? ⟨gb253, 0, none⟩ = some (.int .i64 a0_0) := ec BK253
   have hcz9_1 : wc.cell? ⟨gb253, 1, none⟩ = some (.slice A0_1 l0_1.length c0_1) := ec BK253
   have hfz9_0 := blk_frozen BK253.out 0
   have hfz9_1 := blk_frozen BK253.out 1
   go_wp2
   go_loopg [18] kj1 (fun kq v18 w' => ∃ (x18_2 : Int), v18 = .int .i64 x18_2 ∧ Aside0 (spec_pzGood.l0 kq l0_1 (l0_1.length : Int) x18_2 a0_0 l0_1 = some r) ∧ Aside0 (kq ≤ kj1) ∧ Aside0 (w'.heap[gb253]? = some (.cells #[.int .i64 a0_0, (.slice A0_1 l0_1.length c0_1)] 24 (0, 0))) ∧ Aside0 (Below w.heap.size w w'))
   case atStart => exact ⟨(0), (rs), H', ⟨Nat.le_refl _⟩, ⟨pk BK253⟩, ⟨bw⟩⟩
   case round =>
    clear H'
    try clear p2
    try clear c4
    try clear c5
    try clear c8
    try clear hcz6_0
    try clear hcz6_1
    try clear hcz7_0
    try clear hcz7_1
    try clear hcz9_0
    try clear hcz9_1
    try clear hfz6_0
    try clear hfz6_1
    try clear hfz7_0
    try clear hfz7_1
    try clear hfz9_0
    try clear hfz9_1
    try clear p2
    obtain ⟨x18_2, rfl, HA, HK2, BK253, HB⟩ := hrel
    cases gk with
    | zero => exact absurd HA.out (by simp [spec_pzGood.l0])
    | succ k2 =>
     have H := HA.out
     clear HA
     simp only [spec_pzGood.l0] at H
     by_cases c10 : x18_2 < (l0_1.length : Int)
     ·rw [if_pos c10] at H
      have c10b0 := decide_eq_true c10
      clear c10
      obtain ⟨c11, H⟩ := oi H
      have c11b0 := decide_eq_true c11
      clear c11
      obtain ⟨c12, H⟩ := oi H
      have c12b0 := decide_eq_true c12
      clear c12
      obtain ⟨t257, A13, H⟩ := ob H
      (try dsimp only at H)
      by_cases c14 : t257 = true
      ·subst c14
       rw [if_pos rfl] at H
       have H' := Aside0.mk H
       clear H
       have p255 : 0 ≤ (x18_2 : Int) := of_decide_eq_true asm
       have q255 : x18_2 < (l0_1.length : Int) := of_decide_eq_true asm
       obtain ⟨ad255, e255, hx255_0, hx255_1, hx255_2, hx255_3⟩ := at_T26 HR0_1.out x18_2 p255 q255
       cases e255
       replace hx255_0 := (HB.out.cell (World.block_lt_of_cell? w _ hx255_0)).trans hx255_0
       replace hx255_1 := (HB.out.cell (World.block_lt_of_cell? w _ hx255_1)).trans hx255_1
       replace hx255_2 := (HB.out.cell (World.block_lt_of_cell? w _ hx255_2)).trans hx255_2
       replace hx255_3 := (HB.out.cell (World.block_lt_of_cell? w _ hx255_3)).trans hx255_3
       replace p255 := eq_true p255
       replace q255 := eq_true q255
       go_wp2_with (first | ((with_reducible refine gd 4 ?_); (try (refine gate_guard (by rfl) ?_; dsimp only)); refine bx 4 26 #[.int .i64 0, .int .i64 0, .int .i64 0, .int .i64 0] ?_; intro gb256 hg w15 hbox hb; have BK256 := hbox; have GW256 := gs hg; have GE256 := gs hg; replace HB := bs hb; have ⟨NB253_256, NB256_253⟩ := nn BK253 hg; replace BK253 := nk BK253 hb; clear hb hbox hg; have hnb16 := nb NB256_253; have hz17 := z4 BK256; have hz18 := z2 BK253) | ((with_reducible refine gc 50 ?_); refine gl (some 25) Tryz.func50 #[.int .i64 a0_0, .agg #[.int .i64 ((rd_T26 l0_1 x18_2).f0), .int .i64 ((rd_T26 l0_1 x18_2).f1), .int .i64 ((rd_T26 l0_1 x18_2).f2), .int .i64 ((rd_T26 l0_1 x18_2).f3)]] ?_; (with_reducible refine (spec_pzClue.calls a0_0 ((rd_T26 l0_1 x18_2).f0) ((rd_T26 l0_1 x18_2).f1) ((rd_T26 l0_1 x18_2).f2) ((rd_T26 l0_1 x18_2).f3) true _ A13.out).mono ?_); rintro e w19 ⟨rfl, hb⟩; refine ⟨_, rfl, ?_⟩; replace BK253 := nf BK253 hb; replace BK256 := Aside0.mk (blk_below (g := gb256) (o := .cells #[.int .i64 ((rd_T26 l0_1 x18_2).f0), .int .i64 ((rd_T26 l0_1 x18_2).f1), .int .i64 ((rd_T26 l0_1 x18_2).f2), .int .i64 ((rd_T26 l0_1 x18_2).f3)] 26 (0, 0)) (pz BK256) hb); replace HB := bs hb; (try clear hb)))
       go_roundg k2
       case measure => have := HJ1.out; have := HK2.out; omega
       case rel => exact ⟨(wrap64 (x18_2 + 1)), (rs), H', ⟨by have := HJ1.out; have := HK2.out; omega⟩, ⟨pk BK253⟩, ⟨bw⟩⟩
      replace c14 := Bool.eq_false_iff.mpr c14
      subst c14
      rw [if_neg (show ¬ (false = true) by decide)] at H
      obtain rfl := Option.some.inj H
      have p255 : 0 ≤ (x18_2 : Int) := of_decide_eq_true asm
      have q255 : x18_2 < (l0_1.length : Int) := of_decide_eq_true asm
      obtain ⟨ad255, e255, hx255_0, hx255_1, hx255_2, hx255_3⟩ := at_T26 HR0_1.out x18_2 p255 q255
      cases e255
      replace hx255_0 := (HB.out.cell (World.block_lt_of_cell? w _ hx255_0)).trans hx255_0
      replace hx255_1 := (HB.out.cell (World.block_lt_of_cell? w _ hx255_1)).trans hx255_1
      replace hx255_2 := (HB.out.cell (World.block_lt_of_cell? w _ hx255_2)).trans hx255_2
      replace hx255_3 := (HB.out.cell (World.block_lt_of_cell? w _ hx255_3)).trans hx255_3
      replace p255 := eq_true p255
      replace q255 := eq_true q255
      go_wp2_with (first | ((with_reducible refine gd 4 ?_); (try (refine gate_guard (by rfl) ?_; dsimp only)); refine bx 4 26 #[.int .i64 0, .int .i64 0, .int .i64 0, .int .i64 0] ?_; intro gb256 hg w20 hbox hb; have BK256 := hbox; have GW256 := gs hg; have GE256 := gs hg; replace HB := bs hb; have ⟨NB253_256, NB256_253⟩ := nn BK253 hg; replace BK253 := nk BK253 hb; clear hb hbox hg; have hnb21 := nb NB256_253; have hz22 := z4 BK256; have hz23 := z2 BK253) | ((with_reducible refine gc 50 ?_); refine gl (some 25) Tryz.func50 #[.int .i64 a0_0, .agg #[.int .i64 ((rd_T26 l0_1 x18_2).f0), .int .i64 ((rd_T26 l0_1 x18_2).f1), .int .i64 ((rd_T26 l0_1 x18_2).f2), .int .i64 ((rd_T26 l0_1 x18_2).f3)]] ?_; (with_reducible refine (spec_pzClue.calls a0_0 ((rd_T26 l0_1 x18_2).f0) ((rd_T26 l0_1 x18_2).f1) ((rd_T26 l0_1 x18_2).f2) ((rd_T26 l0_1 x18_2).f3) false _ A13.out).mono ?_); rintro e w24 ⟨rfl, hb⟩; refine ⟨_, rfl, ?_⟩; replace BK253 := nf BK253 hb; replace BK256 := Aside0.mk (blk_below (g := gb256) (o := .cells #[.int .i64 ((rd_T26 l0_1 x18_2).f0), .int .i64 ((rd_T26 l0_1 x18_2).f1), .int .i64 ((rd_T26 l0_1 x18_2).f2), .int .i64 ((rd_T26 l0_1 x18_2).f3)] 26 (0, 0)) (pz BK256) hb); replace HB := bs hb; (try clear hb)))
      go_ret
      exact ⟨rs, bw⟩
     rw [if_neg c10] at H
     have c10b0 := decide_eq_false c10
     clear c10
     obtain rfl := Option.some.inj H
     go_wp2
     go_ret
     exact ⟨rs, bw⟩

/-! ### spec_pzFits: function 51 -/
def spec_pzFits.f (k : Nat) (a0_0 : Int) (a0_1 : Int) (a0_2 : Int) (a0_3 : Int) (a1 : ByteArray) : Option (Bool) := (spec_pzValue.f k a0_0 a0_1 a0_2 a1).bind fun t259 => (some (t259 == a0_3))
theorem spec_pzFits.mono : ∀ a0 a1 a2 a3 a4 k, LeO (spec_pzFits.f k a0 a1 a2 a3 a4) (spec_pzFits.f (k + 1) a0 a1 a2 a3 a4) := by
  intro a0 a1 a2 a3 a4 k
  unfold spec_pzFits.f
  repeat' first
      | (with_reducible exact spec_pzValue.mono _ _ _ _ _)
      | (with_reducible exact LeO.refl _)
      | (with_reducible exact LeO.none _)
      | (with_reducible refine LeO.ite ?_ ?_)
      | (with_reducible refine LeO.bind ?_ (fun _ => ?_))
      | exact spec_pzValue.mono _ _ _ _ _
      | exact LeO.none _
      | refine LeO.ite ?_ ?_
      | refine LeO.bind ?_ (fun _ => ?_)
def spec_pzFits.T1 : Bool × List (List Nat × List Nat) := (true, [([], []), ([0], [0]), ([], []), ([2], [2]), ([], []), ([4], [4]), ([], []), ([1, 3, 5, 6], [1, 3, 5, 6]), ([], []), ([8], [8]), ([7, 9], [7, 9]), ([10, 7, 0, 1, 2, 3, 4, 5, 6, 7, 8, 9, 10], [10])])
def spec_pzFits.B1 : List Nat := [0, 1, 0, 4, 0, 16, 0, 127, 0, 256, 1023, 2047]
theorem spec_pzFits.tab1 : rtab .any (opsOf Tryz.f51 1) = spec_pzFits.T1 := by kernel_rfl
theorem spec_pzFits.bits1 : waitsOk spec_pzFits.T1.2 spec_pzFits.B1 = true := by kernel_rfl
set_option maxHeartbeats 8000000 in
set_option maxRecDepth 100000 in
theorem spec_pzFits.calls (k : Nat) (a0_0 : Int) (a0_1 : Int) (a0_2 : Int) (a0_3 : Int) (a1 : ByteArray) (r : Bool) (w : World) (h : spec_pzFits.f k a0_0 a0_1 a0_2 a0_3 a1 = some r) :
  Calls Tryz.prog 51 #[.agg #[.int .i64 a0_0, .int .i64 a0_1, .int .i64 a0_2, .int .i64 a0_3], .string a1] w fun e w' => e = .returned (.bool r) ∧ Below w.heap.size w w' := by
 have hu26 := Tryz.underlying26
 have HB := Aside0.mk (Below.refl w.heap.size w)
 unfold spec_pzFits.f at h
 have H := h
 clear h
 obtain ⟨t259, A3, H⟩ := ob H
 (try dsimp only at H)
 obtain rfl := Option.some.inj H
 go_enter Tryz.func51, Tryz.ntmps51
 try go_wp2_with (first | ((with_reducible refine gd 2 ?_); refine bx 2 26 #[.int .i64 a0_0, .int .i64 a0_1, .int .i64 a0_2, .int .i64 a0_3] ?_; intro gb258 hg w4 hbox hb; have BK258 := hbox; have GW258 := gs hg; have GE258 := gs hg; replace HB := bs hb; clear hb hbox hg))
 replace BK258 := Aside0.mk (blk_drew BK258.out)
 replace HB := Aside0.mk (below_drew1 HB.out)
 refine start_ (n := 12) (S := fun w' => w'.cell? ⟨gb258, 0, none⟩ = some (.int .i64 a0_0) ∧ w'.cell? ⟨gb258, 1, none⟩ = some (.int .i64 a0_1) ∧ w'.cell? ⟨gb258, 2, none⟩ = some (.int .i64 a0_2) ∧ w'.cell? ⟨gb258, 3, none⟩ = some (.int .i64 a0_3)) (ds := []) (tb 12 0) (by kernel_rfl) rfl rfl ⟨ec BK258, ec BK258, ec BK258, ec BK258⟩ (fun hHeld => ?_); refine with_tabW spec_pzFits.tab1 spec_pzFits.bits1 (fun HT_ HW_ => ?_)
 generalize w4.drew = w5 at BK258 HB hHeld ⊢
 refine pu 0 (some 5) (tb 12 1) ?_
 refine pu 2 (some 7) (tb 12 5) ?_
 refine pu 4 (some 9) (tb 12 21) ?_
 refine pu 6 (some 11) (tb 12 85) ?_
 refine pu 8 (some 13) (tb 12 341) ?_
 refine tk 1 (some 6) (tb 12 343) hHeld ?_
 refine tk 3 (some 8) (tb 12 351) hHeld ?_
 refine tk 5 (some 10) (tb 12 383) hHeld ?_
 refine tk 9 (some 14) (tb 12 895) hHeld ?_
 refine one_ (i := 7) (N := some 12) (tb 12 1023) rfl rfl (one_of HT_.out (by kernel_rfl)) (by decide) (fun K hK => ?_)
 refine go1 Tryz.func56 #[.int .i64 a0_0, .int .i64 a0_1, .int .i64 a0_2, .string a1] ?_
 with_reducible refine (spec_pzValue.calls k a0_0 a0_1 a0_2 a1 t259 _ A3.out).mono ?_
 rintro e w6 ⟨rfl, hb⟩
 refine ⟨_, rfl, ?_⟩
 replace BK258 := nk BK258 hb
 replace HB := bs hb
 (try clear hb)
 refine hK.out _ _ ⟨ec BK258, ec BK258, ec BK258, ec BK258⟩ (fun hHeld => ?_)
 clear hK K
 refine nm (some 12) ?_
 refine pu 10 (some 15) (tb 12 2047) ?_
 refine pu 11 (some 4) (tb 12 4095) ?_
 refine done_ (done_of HT_.out (by kernel_rfl)) ?_
 try go_wp2
 go_ret
 exact ⟨rs, bw⟩

/-! ### spec_rwMake: function 82 -/
def spec_rwMake.l0 : Nat → Int → Int → ByteArray → Option (ByteArray)
  | 0, _, _, _ => none
  | k + 1, x0, x1, x5 => if x0 > 0 then (if (Int.tmod x1 2) = 1 then (if 1 + x5.size ≤ 9223372036854775807 then (spec_rwMake.l0 k (wrap64 (x0 - 1)) (wrap64 (Int.tdiv x1 2)) ((⟨#[62]⟩ : ByteArray) ++ x5)) else (none)) else (if 1 + x5.size ≤ 9223372036854775807 then (spec_rwMake.l0 k (wrap64 (x0 - 1)) (wrap64 (Int.tdiv x1 2)) ((⟨#[60]⟩ : ByteArray) ++ x5)) else (none))) else (some x5)
def spec_rwMake.f (k : Nat) (a0 : Int) (a1 : Int) : Option (ByteArray) := spec_rwMake.l0 k a0 a1 (⟨#[]⟩ : ByteArray)
theorem spec_rwMake.mono_l : ∀ k, (∀ y0 y1 y2, LeO (spec_rwMake.l0 k y0 y1 y2) (spec_rwMake.l0 (k + 1) y0 y1 y2))
  | 0 => fun _ _ _ r h => by simp [spec_rwMake.l0] at h
  | k + 1 => by
    have ih0 := spec_rwMake.mono_l k
    · intro y0 y1 y2
      unfold spec_rwMake.l0
      repeat' first
      | (with_reducible exact ih0 _ _ _)
      | (with_reducible exact LeO.refl _)
      | (with_reducible exact LeO.none _)
      | (with_reducible refine LeO.ite ?_ ?_)
      | (with_reducible refine LeO.bind ?_ (fun _ => ?_))
      | exact ih0 _ _ _
      | exact LeO.none _
      | refine LeO.ite ?_ ?_
      | refine LeO.bind ?_ (fun _ => ?_)
theorem spec_rwMake.mono : ∀ a0 a1 k, LeO (spec_rwMake.f k a0 a1) (spec_rwMake.f (k + 1) a0 a1) := by
  intro a0 a1 k
  have ih0 := spec_rwMake.mono_l k
  unfold spec_rwMake.f
  repeat' first
      | (with_reducible exact ih0 _ _ _)
      | (with_reducible exact LeO.refl _)
      | (with_reducible exact LeO.none _)
      | (with_reducible refine LeO.ite ?_ ?_)
      | (with_reducible refine LeO.bind ?_ (fun _ => ?_))
      | exact ih0 _ _ _
      | exact LeO.none _
      | refine LeO.ite ?_ ?_
      | refine LeO.bind ?_ (fun _ => ?_)
set_option maxHeartbeats 8000000 in
set_option maxRecDepth 100000 in
theorem spec_rwMake.calls (k : Nat) (a0 : Int) (a1 : Int) (r : ByteArray) (w : World) (h : spec_rwMake.f k a0 a1 = some r) :
  Calls Tryz.prog 82 #[.int .i64 a0, .int .i64 a1] w fun e w' => e = .returned (.string r) ∧ Drawn0 w w' := by
 unfold spec_rwMake.f at h
 have H := h
 clear h
 have H' := Aside0.mk H
 clear H
 go_enter Tryz.func82, Tryz.ntmps82
 go_wp2
 go_loopg [0, 1, 5] k (fun kq v0 v1 v5 w' => ∃ (x0_1 : Int) (x1_1 : Int) (x5_1 : ByteArray), v0 = .int .i64 x0_1 ∧ v1 = .int .i64 x1_1 ∧ v5 = .string x5_1 ∧ Aside0 (spec_rwMake.l0 kq x0_1 x1_1 x5_1 = some r) ∧ Aside0 (kq ≤ k) ∧ Drawn0 w w')
 case atStart => exact ⟨(a0), (a1), ((⟨#[]⟩ : ByteArray)), (rs), (rs), (rs), H', ⟨Nat.le_refl _⟩, by repeat (first | exact Drawn0.refl _ | apply Drawn0.step)⟩
 case round =>
  clear H'
  try clear p2
  obtain ⟨x0_1, x1_1, x5_1, rfl, rfl, rfl, HA, HK1, ⟨m1, rfl⟩⟩ := hrel
  cases gk with
  | zero => exact absurd HA.out (by simp [spec_rwMake.l0])
  | succ k1 =>
   have H := HA.out
   clear HA
   simp only [spec_rwMake.l0] at H
   by_cases c3 : x0_1 > 0
   ·rw [if_pos c3] at H
    have c3b0 := decide_eq_true c3
    clear c3
    by_cases c4 : (Int.tmod x1_1 2) = 1
    ·rw [if_pos c4] at H
     have c4b0 : ((Int.tmod x1_1 2) == 1) = true := beq_iff_eq.mpr c4
     have c4b1 : ((Int.tmod x1_1 2) != 1) = false := bne_eq_false_iff_eq.mpr c4
     clear c4
     obtain ⟨c5, H⟩ := oi H
     have c5b0 := eq_true c5
     have c5b1 := decide_eq_true c5
     try have c5b2 : (9223372036854775807 < 1 + x5_1.size) = False := eq_false (Nat.not_lt.2 c5)
     have H' := Aside0.mk H
     clear H
     go_wp2
     go_roundg k1
     case measure => have := HK1.out; omega
     case rel => exact ⟨(wrap64 (x0_1 - 1)), (wrap64 (Int.tdiv x1_1 2)), ((⟨#[62]⟩ : ByteArray) ++ x5_1), (rs), (rs), (rs), H', ⟨by have := HK1.out; omega⟩, by repeat (first | exact Drawn0.refl _ | apply Drawn0.step)⟩
    rw [if_neg c4] at H
    have c4b0 : ((Int.tmod x1_1 2) == 1) = false := beq_eq_false_iff_ne.mpr c4
    have c4b1 : ((Int.tmod x1_1 2) != 1) = true := bne_iff_ne.mpr c4
    obtain ⟨c6, H⟩ := oi H
    have c6b0 := eq_true c6
    have c6b1 := decide_eq_true c6
    try have c6b2 : (9223372036854775807 < 1 + x5_1.size) = False := eq_false (Nat.not_lt.2 c6)
    have H' := Aside0.mk H
    clear H
    go_wp2
    go_roundg k1
    case measure => have := HK1.out; omega
    case rel => exact ⟨(wrap64 (x0_1 - 1)), (wrap64 (Int.tdiv x1_1 2)), ((⟨#[60]⟩ : ByteArray) ++ x5_1), (rs), (rs), (rs), H', ⟨by have := HK1.out; omega⟩, by repeat (first | exact Drawn0.refl _ | apply Drawn0.step)⟩
   rw [if_neg c3] at H
   have c3b0 := decide_eq_false c3
   clear c3
   obtain rfl := Option.some.inj H
   go_wp2
   go_ret
   exact ⟨rs, by repeat (first | exact Drawn0.refl _ | apply Drawn0.step)⟩

/-! ### spec_pzAll: function 65 -/
mutual
def spec_pzAll.l0 : Nat → Int → List (S26) → List ByteArray → Int → Option (List ByteArray)
  | 0, _, _, _, _ => none
  | k + 1, x0, x1, x5, x6 => if 0 ≤ x0 then (if x6 < (shl .i64 1 x0) then ((spec_rwMake.f k x0 x6).bind fun t260 => (spec_pzAll.l1 k x0 x1 x5 x6 t260 true x1 (x1.length : Int) 0)) else (some x5)) else (none)
def spec_pzAll.l1 : Nat → Int → List (S26) → List ByteArray → Int → ByteArray → Bool → List (S26) → Int → Int → Option (List ByteArray)
  | 0, _, _, _, _, _, _, _, _, _ => none
  | k + 1, x0, x1, x5, x6, x7, x8, x20, x21, x22 => if x22 < x21 then (if 0 ≤ x22 then (if x22 < (x20.length : Int) then (if x8 = true then ((spec_pzFits.f k ((rd_T26 x20 x22).f0) ((rd_T26 x20 x22).f1) ((rd_T26 x20 x22).f2) ((rd_T26 x20 x22).f3) x7).bind fun t263 => (spec_pzAll.l1 k x0 x1 x5 x6 x7 t263 x20 x21 (wrap64 (x22 + 1)))) else (spec_pzAll.l1 k x0 x1 x5 x6 x7 false x20 x21 (wrap64 (x22 + 1)))) else (none)) else (none)) else (if x8 = true then (if x5.length < 8796093022208 then (spec_pzAll.l0 k x0 x1 (x5 ++ [x7]) (wrap64 (x6 + 1))) else (none)) else (spec_pzAll.l0 k x0 x1 x5 (wrap64 (x6 + 1))))
end
def spec_pzAll.f (k : Nat) (a0 : Int) (l1 : List (S26)) : Option (List ByteArray) := spec_pzAll.l0 k a0 l1 ([] : List ByteArray) 0
theorem spec_pzAll.mono_l : ∀ k, (∀ y0 y1 y2 y3, LeO (spec_pzAll.l0 k y0 y1 y2 y3) (spec_pzAll.l0 (k + 1) y0 y1 y2 y3)) ∧ (∀ y0 y1 y2 y3 y4 y5 y6 y7 y8, LeO (spec_pzAll.l1 k y0 y1 y2 y3 y4 y5 y6 y7 y8) (spec_pzAll.l1 (k + 1) y0 y1 y2 y3 y4 y5 y6 y7 y8))
  | 0 => ⟨fun _ _ _ _ r h => by simp [spec_pzAll.l0] at h, fun _ _ _ _ _ _ _ _ _ r h => by simp [spec_pzAll.l1] at h⟩
  | k + 1 => by
    obtain ⟨ih0, ih1⟩ := spec_pzAll.mono_l k
    refine ⟨?q0, ?q1⟩
    case' q0 => (intros; unfold spec_pzAll.l0)
    case' q1 => (intros; unfold spec_pzAll.l1)
    all_goals repeat' first
     | (with_reducible exact ih0 _ _ _ _)
     | (with_reducible exact ih1 _ _ _ _ _ _ _ _ _)
     | (with_reducible exact spec_pzFits.mono _ _ _ _ _ _)
     | (with_reducible exact spec_rwMake.mono _ _ _)
     | (with_reducible exact LeO.refl _)
     | (with_reducible exact LeO.none _)
     | (with_reducible refine LeO.ite ?_ ?_)
     | (with_reducible refine LeO.bind ?_ (fun _ => ?_))
     | exact ih0 _ _ _ _
     | exact ih1 _ _ _ _ _ _ _ _ _
     | exact spec_pzFits.mono _ _ _ _ _ _
     | exact spec_rwMake.mono _ _ _
     | exact LeO.none _
     | refine LeO.ite ?_ ?_
     | refine LeO.bind ?_ (fun _ => ?_)
theorem spec_pzAll.mono : ∀ a0 a1 k, LeO (spec_pzAll.f k a0 a1) (spec_pzAll.f (k + 1) a0 a1) := by
  intro a0 a1 k
  obtain ⟨ih0, ih1⟩ := spec_pzAll.mono_l k
  unfold spec_pzAll.f
  repeat' first
      | (with_reducible exact ih0 _ _ _ _)
      | (with_reducible exact ih1 _ _ _ _ _ _ _ _ _)
      | (with_reducible exact spec_pzFits.mono _ _ _ _ _ _)
      | (with_reducible exact spec_rwMake.mono _ _ _)
      | (with_reducible exact LeO.refl _)
      | (with_reducible exact LeO.none _)
      | (with_reducible refine LeO.ite ?_ ?_)
      | (with_reducible refine LeO.bind ?_ (fun _ => ?_))
      | exact ih0 _ _ _ _
      | exact ih1 _ _ _ _ _ _ _ _ _
      | exact spec_pzFits.mono _ _ _ _ _ _
      | exact spec_rwMake.mono _ _ _
      | exact LeO.none _
      | refine LeO.ite ?_ ?_
      | refine LeO.bind ?_ (fun _ => ?_)
set_option maxHeartbeats 8000000 in
set_option maxRecDepth 100000 in
theorem spec_pzAll.calls (k : Nat) (a0 : Int) (A1 : Option Addr) (c1 : Nat) (l1 : List (S26)) (r : List ByteArray) (w : World) (hr1 : Kd.C k26 w A1 l1.length l1) (hc1 : l1.length ≤ c1) (h : spec_pzAll.f k a0 l1 = some r) :
  Calls Tryz.prog 65 #[.int .i64 a0, .slice A1 l1.length c1] w fun e w' => ∃ v0_ : Value, e = .returned (v0_) ∧ Kd.R Kd.string 9 w' w.heap.size (fun _ => True) v0_ r ∧ Below w.heap.size w w' := by
 have hu26 := Tryz.underlying26
 have HR1 := Aside0.mk hr1
 have HC1 := Aside0.mk hc1
 clear hr1 hc1
 have HB := Aside0.mk (Below.refl w.heap.size w)
 unfold spec_pzAll.f at h
 have H := h
 clear h
 have H' := Aside0.mk H
 clear H
 go_enter Tryz.func65, Tryz.ntmps65
 go_wp2
 go_loopg [5, 6] k (fun kq v5 v6 w' => ∃ (x5_1 : List ByteArray) (x6_1 : Int), v6 = .int .i64 x6_1 ∧ Aside0 (spec_pzAll.l0 kq a0 l1 x5_1 x6_1 = some r) ∧ Aside0 (kq ≤ k) ∧ Aside0 (Kd.R Kd.string 9 w' w.heap.size (fun _ => True) v5 x5_1) ∧ Aside0 (Below w.heap.size w w'))
 case atStart => exact ⟨(([] : List ByteArray)), (0), (rs), H', ⟨Nat.le_refl _⟩, ⟨by first | exact Kd.R_nil _ _ _ _ _ | exact Kd.N_nil _ _ _ _ _ | exact Kd.V_nil _ _ _ _ _ | exact Kd.Q_nil _ _ _ _ _ | exact Kd.S_nil _ _ _ _ _⟩, ⟨bw⟩⟩
 case round =>
  clear H'
  try clear c1
  try clear p2
  obtain ⟨x5_1, x6_1, rfl, HA, HK1, HO_5, HB⟩ := hrel
  cases gk with
  | zero => exact absurd HA.out (by simp [spec_pzAll.l0])
  | succ k1 =>
   have H := HA.out
   clear HA
   simp only [spec_pzAll.l0] at H
   obtain ⟨c3, H⟩ := oi H
   have c3b0 := eq_true c3
   have c3b1 := decide_eq_true c3
   clear c3
   obtain ⟨ji4, hji4⟩ : ∃ j_ : Int, (shl .i64 1 a0) = j_ := ⟨_, rfl⟩
   replace H : (if x6_1 < (ji4) then ((spec_rwMake.f k1 a0 x6_1).bind fun t260 => (spec_pzAll.l1 k1 a0 l1 x5_1 x6_1 t260 true l1 (l1.length : Int) 0)) else (some x5_1)) = some r := by first | (rw [hji4] at H; exact H) | (simp only [hji4] at H ⊢; exact H)
   have hji4_ : (IntKind.i64.wrap (1 * 2 ^ min a0.toNat 64)) = ji4 := hji4
   have hji4z : a0 ≤ 64 → (IntKind.i64.wrap (1 * 2 ^ a0.toNat)) = ji4 := shl_small hji4
   have hji4u : (IntKind.i64.wrap (2 ^ min a0.toNat 64)) = ji4 := by have h_ := hji4_; rw [Int.one_mul] at h_; exact h_
   have hji4v : a0 ≤ 64 → (IntKind.i64.wrap (2 ^ a0.toNat)) = ji4 := fun hle_ => by have h_ := hji4z hle_; rw [Int.one_mul] at h_; exact h_
   have hji4y : (wrap64 (1 * 2 ^ min a0.toNat 64)) = ji4 := (i64_w _).symm.trans hji4_
   have hji4x : a0 ≤ 64 → (wrap64 (1 * 2 ^ a0.toNat)) = ji4 := fun h_ => (i64_w _).symm.trans (hji4z h_)
   by_cases c5 : x6_1 < (ji4)
   ·rw [if_pos c5] at H
    have c5b0 := decide_eq_true c5
    clear c5
    obtain ⟨t260, A6, H⟩ := ob H
    (try dsimp only at H)
    have H' := Aside0.mk H
    clear H
    go_wp2_with (first | ((with_reducible refine gc 82 ?_); refine gl (some 19) Tryz.func82 #[.int .i64 a0, .int .i64 x6_1] ?_; (with_reducible refine (spec_rwMake.calls k1 a0 x6_1 t260 _ A6.out).mono ?_); rintro e w' ⟨rfl, ⟨nd, rfl⟩⟩; refine ⟨_, rfl, ?_⟩))
    go_loopg [8, 22] k1 (fun kq v8 v22 w' => ∃ (x8_2 : Bool) (x22_2 : Int), v8 = .bool x8_2 ∧ v22 = .int .i64 x22_2 ∧ Aside0 (spec_pzAll.l1 kq a0 l1 x5_1 x6_1 t260 x8_2 l1 (l1.length : Int) x22_2 = some r) ∧ Aside0 (kq ≤ k1) ∧ Aside0 (Kd.R Kd.string 9 w' w.heap.size (fun _ => True) u5 x5_1) ∧ Aside0 (Below w.heap.size w w'))
    case atStart => exact ⟨(true), (0), (rs), (rs), H', ⟨Nat.le_refl _⟩, ⟨pr HO_5⟩, ⟨bw⟩⟩
    case round =>
     clear H'
     try clear c1
     try clear p2
     try clear c3
     try clear c3b0
     try clear c3b1
     try clear c5
     try clear c5b0
     try clear c6
     try clear p6
     try clear p2
     obtain ⟨x8_2, x22_2, rfl, rfl, HA, HK2, HO_5, HB⟩ := hrel
     cases gk with
     | zero => exact absurd HA.out (by simp [spec_pzAll.l1])
     | succ k2 =>
      have H := HA.out
      clear HA
      simp only [spec_pzAll.l1] at H
      by_cases c7 : x22_2 < (l1.length : Int)
      ·rw [if_pos c7] at H
       have c7b0 := decide_eq_true c7
       clear c7
       obtain ⟨c8, H⟩ := oi H
       have c8b0 := decide_eq_true c8
       clear c8
       obtain ⟨c9, H⟩ := oi H
       have c9b0 := decide_eq_true c9
       clear c9
       by_cases c10 : x8_2 = true
       ·subst c10
        rw [if_pos rfl] at H
        obtain ⟨t263, A11, H⟩ := ob H
        (try dsimp only at H)
        have H' := Aside0.mk H
        clear H
        have p261 : 0 ≤ (x22_2 : Int) := of_decide_eq_true asm
        have q261 : x22_2 < (l1.length : Int) := of_decide_eq_true asm
        obtain ⟨ad261, e261, hx261_0, hx261_1, hx261_2, hx261_3⟩ := at_T26 HR1.out x22_2 p261 q261
        cases e261
        replace hx261_0 := (HB.out.cell (World.block_lt_of_cell? w _ hx261_0)).trans hx261_0
        replace hx261_1 := (HB.out.cell (World.block_lt_of_cell? w _ hx261_1)).trans hx261_1
        replace hx261_2 := (HB.out.cell (World.block_lt_of_cell? w _ hx261_2)).trans hx261_2
        replace hx261_3 := (HB.out.cell (World.block_lt_of_cell? w _ hx261_3)).trans hx261_3
        replace p261 := eq_true p261
        replace q261 := eq_true q261
        go_wp2_with (first | ((with_reducible refine gd 10 ?_); refine bx 10 26 #[.int .i64 0, .int .i64 0, .int .i64 0, .int .i64 0] ?_; intro gb262 hg w12 hbox hb; replace HO_5 := rl HO_5 hb; have BK262 := hbox; have GW262 := gs hg; have GE262 := gs hg; replace HB := bs hb; clear hb hbox hg; have hz13 := z4 BK262) | (go_at_call 51; (with_reducible refine (spec_pzFits.calls k2 ((rd_T26 l1 x22_2).f0) ((rd_T26 l1 x22_2).f1) ((rd_T26 l1 x22_2).f2) ((rd_T26 l1 x22_2).f3) t260 t263 _ A11.out).mono ?_); rintro e w14 ⟨rfl, hb⟩; replace HO_5 := Aside0.mk (Kd.R_below (by (with_reducible repeat (first | apply Kd.R_alloc | apply Kd.R_drewN | apply Kd.R_drew)); exact (Kd.R_mono (Kd.R_far (p := ⟨gb262, 3, none⟩) (Kd.R_far (p := ⟨gb262, 2, none⟩) (Kd.R_far (p := ⟨gb262, 1, none⟩) (Kd.R_far (p := ⟨gb262, 0, none⟩) (Kd.R_types HO_5.out BK262.out (by decide)) (fun _ hk => hk.2) (.int .i64 ((rd_T26 l1 x22_2).f0))) (fun _ hk => hk.2) (.int .i64 ((rd_T26 l1 x22_2).f1))) (fun _ hk => hk.2) (.int .i64 ((rd_T26 l1 x22_2).f2))) (fun _ hk => hk.2) (.int .i64 ((rd_T26 l1 x22_2).f3))) (fun _ h_ => h_.1))) hb); replace BK262 := Aside0.mk (blk_below (g := gb262) (o := .cells #[.int .i64 ((rd_T26 l1 x22_2).f0), .int .i64 ((rd_T26 l1 x22_2).f1), .int .i64 ((rd_T26 l1 x22_2).f2), .int .i64 ((rd_T26 l1 x22_2).f3)] 26 (0, 0)) (pz BK262) hb); replace HB := bs hb; (try clear hb)))
        go_roundg k2
        case measure => have := HK1.out; have := HK2.out; omega
        case rel => exact ⟨(t263), (wrap64 (x22_2 + 1)), (rs), (rs), H', ⟨by have := HK1.out; have := HK2.out; omega⟩, ⟨pr HO_5⟩, ⟨bw⟩⟩
       replace c10 := Bool.eq_false_iff.mpr c10
       subst c10
       rw [if_neg (show ¬ (false = true) by decide)] at H
       have H' := Aside0.mk H
       clear H
       have p261 : 0 ≤ (x22_2 : Int) := of_decide_eq_true asm
       have q261 : x22_2 < (l1.length : Int) := of_decide_eq_true asm
       obtain ⟨ad261, e261, hx261_0, hx261_1, hx261_2, hx261_3⟩ := at_T26 HR1.out x22_2 p261 q261
       cases e261
       replace hx261_0 := (HB.out.cell (World.block_lt_of_cell? w _ hx261_0)).trans hx261_0
       replace hx261_1 := (HB.out.cell (World.block_lt_of_cell? w _ hx261_1)).trans hx261_1
       replace hx261_2 := (HB.out.cell (World.block_lt_of_cell? w _ hx261_2)).trans hx261_2
       replace hx261_3 := (HB.out.cell (World.block_lt_of_cell? w _ hx261_3)).trans hx261_3
       replace p261 := eq_true p261
       replace q261 := eq_true q261
       go_wp2_with (first | ((with_reducible refine gd 10 ?_); refine bx 10 26 #[.int .i64 0, .int .i64 0, .int .i64 0, .int .i64 0] ?_; intro gb262 hg w15 hbox hb; replace HO_5 := rl HO_5 hb; have BK262 := hbox; have GW262 := gs hg; have GE262 := gs hg; replace HB := bs hb; clear hb hbox hg; have hz16 := z4 BK262))
       go_roundg k2
       case measure => have := HK1.out; have := HK2.out; omega
       case rel => exact ⟨(false), (wrap64 (x22_2 + 1)), (rs), (rs), H', ⟨by have := HK1.out; have := HK2.out; omega⟩, ⟨by (with_reducible repeat (first | apply Kd.R_alloc | apply Kd.R_drewN | apply Kd.R_drew)); exact Kd.R_mono (Kd.R_far (p := ⟨gb262, 3, none⟩) (Kd.R_far (p := ⟨gb262, 2, none⟩) (Kd.R_far (p := ⟨gb262, 1, none⟩) (Kd.R_far (p := ⟨gb262, 0, none⟩) (Kd.R_types HO_5.out BK262.out (by decide)) (fun _ hk => hk.2) (.int .i64 ((rd_T26 l1 x22_2).f0))) (fun _ hk => hk.2) (.int .i64 ((rd_T26 l1 x22_2).f1))) (fun _ hk => hk.2) (.int .i64 ((rd_T26 l1 x22_2).f2))) (fun _ hk => hk.2) (.int .i64 ((rd_T26 l1 x22_2).f3))) (fun _ hk => trivial)⟩, ⟨bw⟩⟩
      rw [if_neg c7] at H
      have c7b0 := decide_eq_false c7
      clear c7
      by_cases c17 : x8_2 = true
      ·subst c17
       rw [if_pos rfl] at H
       obtain ⟨c18, H⟩ := oi H
       have LMc18 := Aside0.mk c18
       clear c18
       obtain ⟨y264, hy264⟩ : ∃ y_ : List ByteArray, y_ = (x5_1 ++ [t260]) := ⟨_, rfl⟩
       replace H : (spec_pzAll.l0 k2 a0 l1 y264 (wrap64 (x6_1 + 1))) = some r := by first | (rw [hy264]; with_reducible exact H) | (have H2_ := (Option.bind_some _ _).symm.trans H; rw [hy264]; with_reducible exact H2_) | (have H2_ := (Option.bind_some _ _).symm.trans H; with_reducible exact H2_) | with_reducible exact H | (rw [hy264]; exact H) | exact H
       have Ny264 := Aside0.mk hy264
       clear hy264
       have H' := Aside0.mk H
       clear H
       go_wp2_with (first | ((with_reducible refine gate_builtin (b := .append) (xs := #[.tmp 34, .tmp 36]) rfl ?_); at_builtin; refine Kd.R_append Kd.string (w0 := w) w.heap.size rfl (.tmp 34) (.tmp 36) 42 9 (.string ⟨#[]⟩) 16 rfl Tryz.underlying42 info9 rfl (by decide) (by omega) u5 x5_1 t260 [.string t260] (fun _ => True) (fun _ => False) rfl rfl ?aP (fun _ hk => hk.elim) ?aF ?aO ?aB ?aS ?aL ?_; (case aP => exact rfl); (case aB => exact bw); (case aF => exact (fun _ _ => trivial)); (case aO => exact (pr HO_5)); (case aS => exact (below_size bw)); (case aL => have := LMc18.out; omega); intro v265 w19 ho hb hg hat; rw [← Ny264.out] at ho; have n0_ := Aside0.mk (hb); have n1_ := Aside0.mk (ho); clear HB; clear HO_5; have HB := n0_; have HO266 := n1_; clear n0_ n1_; clear ho hb hg hat))
       go_roundg k2
       case measure => have := HK1.out; have := HK2.out; omega
       case rel => exact ⟨(y264), (wrap64 (x6_1 + 1)), (rs), H', ⟨by have := HK1.out; have := HK2.out; omega⟩, ⟨pr HO266⟩, ⟨bw⟩⟩
      replace c17 := Bool.eq_false_iff.mpr c17
      subst c17
      rw [if_neg (show ¬ (false = true) by decide)] at H
      have H' := Aside0.mk H
      clear H
      go_wp2
      go_roundg k2
      case measure => have := HK1.out; have := HK2.out; omega
      case rel => exact ⟨(x5_1), (wrap64 (x6_1 + 1)), (rs), H', ⟨by have := HK1.out; have := HK2.out; omega⟩, ⟨pr HO_5⟩, ⟨bw⟩⟩
   rw [if_neg c5] at H
   have c5b0 := decide_eq_false c5
   clear c5
   obtain rfl := Option.some.inj H
   go_wp2
   go_ret
   exact ⟨_, by first | rfl | (simp [errW_none, errW_some] <;> rfl) | (simp only [← hji4]; first | rfl | (simp [errW_none, errW_some] <;> rfl)) | (simp [*, errW_none, errW_some] <;> rfl), pr HO_5, bw⟩
/-! ### spec_pzSolved: function 48 -/
def spec_pzSolved.f (k : Nat) (a0 : Int) (l1 : List (S26)) : Option (Bool) := (spec_pzAll.f k a0 l1).bind fun t267 => (some ((t267.length : Int) == 1))
theorem spec_pzSolved.mono : ∀ a0 a1 k, LeO (spec_pzSolved.f k a0 a1) (spec_pzSolved.f (k + 1) a0 a1) := by
  intro a0 a1 k
  unfold spec_pzSolved.f
  repeat' first
      | (with_reducible exact spec_pzAll.mono _ _ _)
      | (with_reducible exact LeO.refl _)
      | (with_reducible exact LeO.none _)
      | (with_reducible refine LeO.ite ?_ ?_)
      | (with_reducible refine LeO.bind ?_ (fun _ => ?_))
      | exact spec_pzAll.mono _ _ _
      | exact LeO.none _
      | refine LeO.ite ?_ ?_
      | refine LeO.bind ?_ (fun _ => ?_)
set_option maxHeartbeats 8000000 in
set_option maxRecDepth 100000 in
theorem spec_pzSolved.calls (k : Nat) (a0 : Int) (A1 : Option Addr) (c1 : Nat) (l1 : List (S26)) (r : Bool) (w : World) (hr1 : Kd.C k26 w A1 l1.length l1) (hc1 : l1.length ≤ c1) (h : spec_pzSolved.f k a0 l1 = some r) :
  Calls Tryz.prog 48 #[.int .i64 a0, .slice A1 l1.length c1] w fun e w' => e = .returned (.bool r) ∧ Below w.heap.size w w' := by
 have HR1 := Aside0.mk hr1
 have HC1 := Aside0.mk hc1
 clear hr1 hc1
 have HB := Aside0.mk (Below.refl w.heap.size w)
 unfold spec_pzSolved.f at h
 have H := h
 clear h
 obtain ⟨t267, A3, H⟩ := ob H
 (try dsimp only at H)
 obtain rfl := Option.some.inj H
 go_enter Tryz.func48, Tryz.ntmps48
 go_wp2_with (first | ((with_reducible refine gc 65 ?_); refine gl (some 7) Tryz.func65 #[.int .i64 a0, .slice A1 l1.length c1] ?_; (with_reducible refine (spec_pzAll.calls k a0 _ _ l1 t267 _ ?_ ?_ A3.out).mono ?_); exact cr HR1; exact HC1.out; rintro e w4 ⟨v268, rfl, ho0, hb⟩; refine ⟨_, rfl, ?_⟩; have HO269 := Aside0.mk (Kd.R_lower ho0 (below_size bw)); replace HB := bs hb; (try clear hb); (try clear ho0); obtain ⟨Ao5, co5, eo5⟩ := Kd.R_slice HO269.out; subst eo5))
 go_ret
 exact ⟨rs, bw⟩

end Go.Proofs.YtonhhfhlhlifcaaGreatDoor.PFnRowsHiddenOfAll
