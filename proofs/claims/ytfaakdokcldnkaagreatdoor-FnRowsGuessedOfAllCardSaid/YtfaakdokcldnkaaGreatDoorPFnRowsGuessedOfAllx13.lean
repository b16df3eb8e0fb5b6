-- Laid by xprint, a program of this session that runs over the kit's print.
import Derived.Test.YtfaakdokcldnkaaGreatDoorPFnRowsGuessedOfAllx12
namespace Go.Proofs.YtfaakdokcldnkaaGreatDoor.PFnRowsGuessedOfAll
open Go.RowKit Go.Proofs.YtfaakdokcldnkaaGreatDoorW.PrintWords Go.Proofs.YtfaakdokcldnkaaGreatDoorW.PrintLast Go.Proofs.YtfaakdokcldnkaaGreatDoorW.PrintMore Go.Proofs.YtfaakdokcldnkaaGreatDoor.Sq
attribute [local go_sem] max2_int min2_int max_two min_two max_three min_three max_four min_four   -- for this text's walks alone
set_option linter.unusedVariables false
set_option linter.unusedSimpArgs false

/-! ### spec_BestClue: function 19 -/
mutual
def spec_BestClue.j0 : Nat → Bool → Int → List (S42) → Option (Int × Bool)
  | 0, _, _, _ => none
  | k + 1, x16, x340000, x340001 => if x16 = true then (some (0, false)) else (spec_BestClue.l0 k 0 0 (x340001.length : Int) 0 x340000 x340001)
def spec_BestClue.l0 : Nat → Int → Int → Int → Int → Int → List (S42) → Option (Int × Bool)
  | 0, _, _, _, _, _, _ => none
  | k + 1, x4, x5, x19, x20, x340000, x340001 => if x20 < x19 then (if 0 ≤ x20 then (if x20 ≤ (wrap64 (x20 + 1)) then (if (wrap64 (x20 + 1)) ≤ (x340001.length : Int) then ((spec_pzAll.f k x340000 ((x340001.take ((wrap64 (x20 + 1)) : Int).toNat).drop (x20 : Int).toNat)).bind fun t345 => (if x20 = 0 then (spec_BestClue.l0 k x20 (t345.length : Int) x19 (wrap64 (x20 + 1)) x340000 x340001) else (if (t345.length : Int) < x5 then (spec_BestClue.l0 k x20 (t345.length : Int) x19 (wrap64 (x20 + 1)) x340000 x340001) else (spec_BestClue.l0 k x4 x5 x19 (wrap64 (x20 + 1)) x340000 x340001)))) else (none)) else (none)) else (none)) else (some (x4, true))
end
def spec_BestClue.f (k : Nat) (a0_0 : Int) (l0_1 : List (S42)) : Option (Int × Bool) := (spec_pzGood.f k a0_0 l0_1).bind fun t340 => (if t340 = true then (spec_BestClue.j0 k ((l0_1.length : Int) == 0) a0_0 l0_1) else (spec_BestClue.j0 k true a0_0 l0_1))
theorem spec_BestClue.mono_l : ∀ k, (∀ y0 y1 y2, LeO (spec_BestClue.j0 k y0 y1 y2) (spec_BestClue.j0 (k + 1) y0 y1 y2)) ∧ (∀ y0 y1 y2 y3 y4 y5, LeO (spec_BestClue.l0 k y0 y1 y2 y3 y4 y5) (spec_BestClue.l0 (k + 1) y0 y1 y2 y3 y4 y5))
  | 0 => ⟨fun _ _ _ r h => by simp [spec_BestClue.j0] at h, fun _ _ _ _ _ _ r h => by simp [spec_BestClue.l0] at h⟩
  | k + 1 => by
    obtain ⟨ih0, ih1⟩ := spec_BestClue.mono_l k
    refine ⟨?q0, ?q1⟩
    case' q0 => (intros; unfold spec_BestClue.j0)
    case' q1 => (intros; unfold spec_BestClue.l0)
    all_goals repeat' first
     | (with_reducible exact ih0 _ _ _)
     | (with_reducible exact ih1 _ _ _ _ _ _)
     | (with_reducible exact spec_pzAll.mono _ _ _)
     | (with_reducible exact spec_pzGood.mono _ _ _)
     | (with_reducible exact LeO.refl _)
     | (with_reducible exact LeO.none _)
     | (with_reducible refine LeO.ite ?_ ?_)
     | (with_reducible refine LeO.bind ?_ (fun _ => ?_))
     | exact ih0 _ _ _
     | exact ih1 _ _ _ _ _ _
     | exact spec_pzAll.mono _ _ _
     | exact spec_pzGood.mono _ _ _
     | exact LeO.none _
     | refine LeO.ite ?_ ?_
     | refine LeO.bind ?_ (fun _ => ?_)
theorem spec_BestClue.mono : ∀ a0 a1 k, LeO (spec_BestClue.f k a0 a1) (spec_BestClue.f (k + 1) a0 a1) := by
  intro a0 a1 k
  obtain ⟨ih0, ih1⟩ := spec_BestClue.mono_l k
  unfold spec_BestClue.f
  repeat' first
      | (with_reducible exact ih0 _ _ _)
      | (with_reducible exact ih1 _ _ _ _ _ _)
      | (with_reducible exact spec_pzAll.mono _ _ _)
      | (with_reducible exact spec_pzGood.mono _ _ _)
      | (with_reducible exact LeO.refl _)
      | (with_reducible exact LeO.none _)
      | (with_reducible refine LeO.ite ?_ ?_)
      | (with_reducible refine LeO.bind ?_ (fun _ => ?_))
      | exact ih0 _ _ _
      | exact ih1 _ _ _ _ _ _
      | exact spec_pzAll.mono _ _ _
      | exact spec_pzGood.mono _ _ _
      | exact LeO.none _
      | refine LeO.ite ?_ ?_
      | refine LeO.bind ?_ (fun _ => ?_)
def spec_BestClue.T7 : Bool × List (List Nat × List Nat) := (true, [([], []), ([0], [0]), ([], []), ([2], [2]), ([], []), ([], []), ([5], [5]), ([3, 4, 6], [3, 4, 6]), ([1, 7], [1, 7]), ([8], [8]), ([9, 8, 0, 1, 2, 3, 4, 5, 6, 7, 8, 9], [9])])
def spec_BestClue.B7 : List Nat := [0, 1, 0, 4, 0, 0, 32, 124, 255, 511, 1023]
theorem spec_BestClue.tab7 : rtab .any (opsOf Tryz.f19 7) = spec_BestClue.T7 := by kernel_rfl
theorem spec_BestClue.bits7 : waitsOk spec_BestClue.T7.2 spec_BestClue.B7 = true := by kernel_rfl
set_option maxHeartbeats 8000000 in
set_option maxRecDepth 100000 in
theorem spec_BestClue.calls (k : Nat) (a0_0 : Int) (A0_1 : Option Addr) (c0_1 : Nat) (l0_1 : List (S42)) (r1 : Int) (r2 : Bool) (w : World) (hr0_1 : Kd.C k42 w A0_1 l0_1.length l0_1) (hc0_1 : l0_1.length ≤ c0_1) (h : spec_BestClue.f k a0_0 l0_1 = some (r1, r2)) :
  Calls Tryz.prog 19 #[.agg #[.int .i64 a0_0, .slice A0_1 l0_1.length c0_1]] w fun e w' => e = .returned (.tuple #[.int .i64 r1, .bool r2]) ∧ Below w.heap.size w w' := by
 have hu24 := Tryz.underlying24
 have HR0_1 := Aside0.mk hr0_1
 have HC0_1 := Aside0.mk hc0_1
 clear hr0_1 hc0_1
 have HB := Aside0.mk (Below.refl w.heap.size w)
 unfold spec_BestClue.f at h
 have H := h
 clear h
 have HC2 := Aside0.mk H
 clear H
 go_enter Tryz.func19, Tryz.ntmps19
 go_upto_region 1 with (first | ((with_reducible refine gd 1 ?_); (try (refine gate_guard (by rfl) ?_; dsimp only)); refine bx 1 24 #[.int .i64 a0_0, .slice A0_1 l0_1.length c0_1] ?_; intro gb339 hg w3 hbox hb; have BK339 := hbox; have GW339 := gs hg; have GE339 := gs hg; replace HB := bs hb; clear hb hbox hg))
 (try simp only [Act.put, List.setIfInBounds_toArray, List.set_cons_zero, List.set_cons_succ])
 go_cut [16] (fun v16 wc => ∃ (kq : Nat) (x16_1 : Bool), v16 = .bool x16_1 ∧ Aside0 (spec_BestClue.j0 kq x16_1 a0_0 l0_1 = some (r1, r2)) ∧ Aside0 (kq ≤ k) ∧ Aside0 (wc.heap[gb339]? = some (.cells #[.int .i64 a0_0, (.slice A0_1 l0_1.length c0_1)] 24 (0, 0))) ∧ Aside0 (Below w.heap.size w wc))
 case first =>
  have H := HC2.out
  clear HC2
  obtain ⟨t340, A4, H⟩ := ob H
  (try dsimp only at H)
  by_cases c5 : t340 = true
  ·subst c5
   rw [if_pos rfl] at H
   have H' := Aside0.mk H
   clear H
   obtain ⟨hcz6_0, hcz6_1, hfz6_0, hfz6_1⟩ := z2 BK339
   go_wp2_with (first | ((with_reducible refine gc 35 ?_); refine gl (some 9) Tryz.func35 #[.agg #[.int .i64 a0_0, .slice A0_1 l0_1.length c0_1]] ?_; (with_reducible refine (spec_pzGood.calls k a0_0 _ _ l0_1 true _ ?_ ?_ A4.out).mono ?_); exact cb HR0_1; exact HC0_1.out; rintro e w7 ⟨rfl, hb⟩; refine ⟨_, rfl, ?_⟩; replace BK339 := nk BK339 hb; replace HB := bs hb; (try clear hb); obtain ⟨hcz8_0, hcz8_1, hfz8_0, hfz8_1⟩ := z2 BK339))
   go_meet
   case rel => exact ⟨_, (((l0_1.length : Int) == 0)), (rs), H', ⟨by first | omega | exact Nat.le_refl _⟩, ⟨pk BK339⟩, ⟨bw⟩⟩
  replace c5 := Bool.eq_false_iff.mpr c5
  subst c5
  rw [if_neg (show ¬ (false = true) by decide)] at H
  have H' := Aside0.mk H
  clear H
  obtain ⟨hcz9_0, hcz9_1, hfz9_0, hfz9_1⟩ := z2 BK339
  go_wp2_with (first | ((with_reducible refine gc 35 ?_); refine gl (some 9) Tryz.func35 #[.agg #[.int .i64 a0_0, .slice A0_1 l0_1.length c0_1]] ?_; (with_reducible refine (spec_pzGood.calls k a0_0 _ _ l0_1 false _ ?_ ?_ A4.out).mono ?_); exact cb HR0_1; exact HC0_1.out; rintro e w10 ⟨rfl, hb⟩; refine ⟨_, rfl, ?_⟩; replace BK339 := nk BK339 hb; replace HB := bs hb; (try clear hb)))
  go_meet
  case rel => exact ⟨_, (true), (rs), H', ⟨by first | omega | exact Nat.le_refl _⟩, ⟨pk BK339⟩, ⟨bw⟩⟩
 case rest =>
  clear HC2
  try clear c1
  try clear p2
  try clear c3
  try clear c5
  try clear hcz6_0
  try clear hcz6_1
  try clear hcz8_0
  try clear hcz8_1
  try clear hcz9_0
  try clear hcz9_1
  try clear hfz6_0
  try clear hfz6_1
  try clear hfz8_0
  try clear hfz8_1
  try clear hfz9_0
  try clear hfz9_1
  obtain ⟨kq, x16_1, rfl, HA, HJ1, BK339, HB⟩ := hcut
  cases kq with
  | zero => exact absurd HA.out (by simp [spec_BestClue.j0])
  | succ kj1 =>
   have H := HA.out
   clear HA
   simp only [spec_BestClue.j0] at H
   by_cases c11 : x16_1 = true
   ·subst c11
    rw [if_pos rfl] at H
    simp only [Option.some.injEq, Prod.mk.injEq] at H
    obtain ⟨rfl, rfl⟩ := H
    go_wp2
    go_ret2
    exact ⟨rs, bw⟩
   replace c11 := Bool.eq_false_iff.mpr c11
   subst c11
   rw [if_neg (show ¬ (false = true) by decide)] at H
   have H' := Aside0.mk H
   clear H
   have hcz12_0 : wc.cell? ⟨gb339, 0, none⟩ = some (.int .i64 a0_0) := ec BK339
   have hcz12_1 : wc.cell? ⟨gb339, 1, none⟩ = some (.slice A0_1 l0_1.length c0_1) := ec BK339
   have hfz12_0 := blk_frozen BK339.out 0
   have hfz12_1 := blk_frozen BK339.out 1
   go_wp2
   go_loopg [4, 5, 20] kj1 (fun kq v4 v5 v20 w' => ∃ (x4_2 : Int) (x5_2 : Int) (x20_2 : Int), v4 = .int .i64 x4_2 ∧ v5 = .int .i64 x5_2 ∧ v20 = .int .i64 x20_2 ∧ Aside0 (spec_BestClue.l0 kq x4_2 x5_2 (l0_1.length : Int) x20_2 a0_0 l0_1 = some (r1, r2)) ∧ Aside0 (kq ≤ kj1) ∧ Aside0 (w'.heap[gb339]? = some (.cells #[.int .i64 a0_0, (.slice A0_1 l0_1.length c0_1)] 24 (0, 0))) ∧ Aside0 (Below w.heap.size w w'))
   case atStart => exact ⟨(0), (0), (0), (rs), (rs), (rs), H', ⟨Nat.le_refl _⟩, ⟨pk BK339⟩, ⟨bw⟩⟩
   case round =>
    clear H'
    try clear c1
    try clear p2
    try clear c3
    try clear c5
    try clear c11
    try clear hcz12_0
    try clear hcz12_1
    try clear hcz6_0
    try clear hcz6_1
    try clear hcz8_0
    try clear hcz8_1
    try clear hcz9_0
    try clear hcz9_1
    try clear hfz12_0
    try clear hfz12_1
    try clear hfz6_0
    try clear hfz6_1
    try clear hfz8_0
    try clear hfz8_1
    try clear hfz9_0
    try clear hfz9_1
    try clear p2
    obtain ⟨x4_2, x5_2, x20_2, rfl, rfl, rfl, HA, HK2, BK339, HB⟩ := hrel
    cases gk with
    | zero => exact absurd HA.out (by simp [spec_BestClue.l0])
    | succ k2 =>
     have H := HA.out
     clear HA
     simp only [spec_BestClue.l0] at H
     by_cases c13 : x20_2 < (l0_1.length : Int)
     ·rw [if_pos c13] at H
      have c13b0 := decide_eq_true c13
      clear c13
      obtain ⟨c14, H⟩ := oi H
      have c14b0 := eq_true c14
      have c14b1 := decide_eq_true c14
      clear c14
      obtain ⟨c15, H⟩ := oi H
      have c15b0 := eq_true c15
      have c15b1 := decide_eq_true c15
      obtain ⟨c16, H⟩ := oi H
      have c16b0 := eq_true c16
      have c16b1 := decide_eq_true c16
      obtain ⟨y341, hy341⟩ : ∃ y_ : List (S42), y_ = ((l0_1.take ((wrap64 (x20_2 + 1)) : Int).toNat).drop (x20_2 : Int).toNat) := ⟨_, rfl⟩
      replace H : ((spec_pzAll.f k2 a0_0 y341).bind fun t345 => (if x20_2 = 0 then (spec_BestClue.l0 k2 x20_2 (t345.length : Int) (l0_1.length : Int) (wrap64 (x20_2 + 1)) a0_0 l0_1) else (if (t345.length : Int) < x5_2 then (spec_BestClue.l0 k2 x20_2 (t345.length : Int) (l0_1.length : Int) (wrap64 (x20_2 + 1)) a0_0 l0_1) else (spec_BestClue.l0 k2 x4_2 x5_2 (l0_1.length : Int) (wrap64 (x20_2 + 1)) a0_0 l0_1)))) = some (r1, r2) := by first | (rw [hy341]; with_reducible exact H) | (have H2_ := (Option.bind_some _ _).symm.trans H; rw [hy341]; with_reducible exact H2_) | (have H2_ := (Option.bind_some _ _).symm.trans H; with_reducible exact H2_) | with_reducible exact H | (rw [hy341]; exact H) | exact H
      have Ny341 := Aside0.mk hy341
      clear hy341
      obtain ⟨t345, A17, H⟩ := ob H
      (try dsimp only at H)
      by_cases c18 : x20_2 = 0
      ·rw [if_pos c18] at H
       have c18b0 : (x20_2 == 0) = true := beq_iff_eq.mpr c18
       have c18b1 : (x20_2 != 0) = false := bne_eq_false_iff_eq.mpr c18
       clear c18
       have H' := Aside0.mk H
       clear H
       try go_wp2
       replace BK339 := Aside0.mk (blk_drew BK339.out)
       replace HB := Aside0.mk (below_drew1 HB.out)
       have q20 : ((wrap64 (x20_2 + 1)) : Int) ≤ ((l0_1.length : Int) : Int) := of_decide_eq_true asm
       obtain ⟨i020, hi020, _, hsz20, _⟩ := info_parts info42
       have hroom20 : l0_1.length ≤ c0_1 := HC0_1.out
       have hC20 : Kd.C k42 _ A0_1 l0_1.length l0_1 := HR0_1.out
       have ql20 : (x20_2 : Int) ≤ ((wrap64 (x20_2 + 1)) : Int) := of_decide_eq_true asm
       have q020 : (0 : Int) ≤ (x20_2 : Int) := of_decide_eq_true asm
       have hcut20 := cut_mid (P := Tryz.prog) 22 42 .i64 .i64 Tryz.underlying22 hi020 4 hsz20 A0_1 l0_1.length c0_1 x20_2 (wrap64 (x20_2 + 1)) q020 ql20 q20 hroom20
       have hr20 := Kd.C_mid (lo := (x20_2 : Int).toNat) (hi := ((wrap64 (x20_2 + 1)) : Int).toNat) (c := c0_1) hC20 (by omega) (by omega) hroom20
       obtain ⟨A20, hA20⟩ : ∃ A1, A1 = (if c0_1 = (x20_2 : Int).toNat then A0_1 else (A0_1 : Option Addr).map (·.add ((x20_2 : Int).toNat * 4))) := ⟨_, rfl⟩
       obtain ⟨c20, hc20⟩ : ∃ c1, c1 = c0_1 - (x20_2 : Int).toNat := ⟨_, rfl⟩
       have hy20 : y341.length = ((wrap64 (x20_2 + 1)) : Int).toNat - (x20_2 : Int).toNat := (by rw [Ny341.out, List.length_drop, List.length_take] <;> omega)
       rw [show ((l0_1).take ((wrap64 (x20_2 + 1)) : Int).toNat).drop (x20_2 : Int).toNat = y341 from Ny341.out.symm] at hr20
       replace hr20 : Kd.C k42 _ A20 y341.length y341 := (by rw [hA20]; exact hr20)
       rw [← hy20, ← hA20, ← hc20] at hcut20
       have HR344 := Aside0.mk hr20
       have HC344 := Aside0.mk (show y341.length ≤ c20 from by rw [hy20, hc20]; exact Nat.sub_le_sub_right (Nat.le_trans (by omega) hroom20) _)
       clear hr20 hC20 hroom20 hi020 hsz20 hc20
       have KY20 := Aside0.mk hy20
       have KA20 := Aside0.mk hA20
       clear hy20 hA20
       replace q20 := eq_true q20
       refine start_ (n := 11) (S := fun w' => w'.cell? ⟨gb339, 0, none⟩ = some (.int .i64 a0_0) ∧ w'.cell? ⟨gb339, 1, none⟩ = some (.slice A0_1 l0_1.length c0_1)) (ds := []) (tb 11 0) (by kernel_rfl) rfl rfl ⟨ec BK339, ec BK339⟩ (fun hHeld => ?_); refine with_tabW spec_BestClue.tab7 spec_BestClue.bits7 (fun HT_ HW_ => ?_)
       generalize wr.drew = w19 at BK339 HB HR344 hHeld ⊢
       refine pu 0 (some 23) (tb 11 1) ?_
       refine pu 2 (some 25) (tb 11 5) ?_
       refine pu 4 (some 27) (tb 11 21) ?_
       refine pu 5 (some 28) (tb 11 53) ?_
       refine pu 6 (some 29) (tb 11 117) ?_
       refine tk 1 (some 24) (tb 11 119) hHeld ?_
       refine tk 3 (some 26) (tb 11 127) hHeld ?_
       refine pu 7 (some 30) (tb 11 255) ?_
       refine one_ (i := 8) (N := some 31) (tb 11 511) rfl rfl (one_of HT_.out (by kernel_rfl)) (by decide) (fun K hK => ?_)
       refine go1 Tryz.func36 #[.int .i64 a0_0, .slice A20 y341.length c20] ?_
       with_reducible refine (spec_pzAll.calls k2 a0_0 _ _ y341 t345 _ ?side1 ?side2 A17.out).mono ?_
       (case side1 => exact cb HR344)
       (case side2 => exact HC344.out)
       rintro e w21 ⟨v346, rfl, ho0, hb⟩
       refine ⟨_, rfl, ?_⟩
       have HO347 := Aside0.mk (Kd.R_lower ho0 (below_size bw))
       replace BK339 := nk BK339 hb
       replace HB := bs hb
       (try clear hb)
       (try clear ho0)
       obtain ⟨Ao22, co22, eo22⟩ := Kd.R_slice HO347.out
       (first | subst eo22 | (injection eo22 with f1_ f2_ f3_; have f4_ := f1_.symm; have f5_ := f3_.symm; clear f1_ f2_ f3_; subst f4_; subst f5_))
       refine hK.out _ _ ⟨ec BK339, ec BK339⟩ (fun hHeld => ?_)
       clear hK K
       refine nm (some 31) ?_
       refine pu 9 (some 32) (tb 11 1023) ?_
       refine pu 10 (some 7) (tb 11 2047) ?_
       refine done_ (done_of HT_.out (by kernel_rfl)) ?_
       try go_wp2
       go_roundg k2
       case measure => have := HJ1.out; have := HK2.out; omega
       case rel => exact ⟨(x20_2), ((t345.length : Int)), (wrap64 (x20_2 + 1)), (rs), (rs), (rs), H', ⟨by have := HJ1.out; have := HK2.out; omega⟩, ⟨pk BK339⟩, ⟨bw⟩⟩
      rw [if_neg c18] at H
      have c18b0 : (x20_2 == 0) = false := beq_eq_false_iff_ne.mpr c18
      have c18b1 : (x20_2 != 0) = true := bne_iff_ne.mpr c18
      by_cases c23 : (t345.length : Int) < x5_2
      ·rw [if_pos c23] at H
       have c23b0 := decide_eq_true c23
       clear c23
       have H' := Aside0.mk H
       clear H
       try go_wp2
       replace BK339 := Aside0.mk (blk_drew BK339.out)
       replace HB := Aside0.mk (below_drew1 HB.out)
       have q25 : ((wrap64 (x20_2 + 1)) : Int) ≤ ((l0_1.length : Int) : Int) := of_decide_eq_true asm
       obtain ⟨i025, hi025, _, hsz25, _⟩ := info_parts info42
       have hroom25 : l0_1.length ≤ c0_1 := HC0_1.out
       have hC25 : Kd.C k42 _ A0_1 l0_1.length l0_1 := HR0_1.out
       have ql25 : (x20_2 : Int) ≤ ((wrap64 (x20_2 + 1)) : Int) := of_decide_eq_true asm
       have q025 : (0 : Int) ≤ (x20_2 : Int) := of_decide_eq_true asm
       have hcut25 := cut_mid (P := Tryz.prog) 22 42 .i64 .i64 Tryz.underlying22 hi025 4 hsz25 A0_1 l0_1.length c0_1 x20_2 (wrap64 (x20_2 + 1)) q025 ql25 q25 hroom25
       have hr25 := Kd.C_mid (lo := (x20_2 : Int).toNat) (hi := ((wrap64 (x20_2 + 1)) : Int).toNat) (c := c0_1) hC25 (by omega) (by omega) hroom25
       obtain ⟨A25, hA25⟩ : ∃ A1, A1 = (if c0_1 = (x20_2 : Int).toNat then A0_1 else (A0_1 : Option Addr).map (·.add ((x20_2 : Int).toNat * 4))) := ⟨_, rfl⟩
       obtain ⟨c25, hc25⟩ : ∃ c1, c1 = c0_1 - (x20_2 : Int).toNat := ⟨_, rfl⟩
       have hy25 : y341.length = ((wrap64 (x20_2 + 1)) : Int).toNat - (x20_2 : Int).toNat := (by rw [Ny341.out, List.length_drop, List.length_take] <;> omega)
       rw [show ((l0_1).take ((wrap64 (x20_2 + 1)) : Int).toNat).drop (x20_2 : Int).toNat = y341 from Ny341.out.symm] at hr25
       replace hr25 : Kd.C k42 _ A25 y341.length y341 := (by rw [hA25]; exact hr25)
       rw [← hy25, ← hA25, ← hc25] at hcut25
       have HR344 := Aside0.mk hr25
       have HC344 := Aside0.mk (show y341.length ≤ c25 from by rw [hy25, hc25]; exact Nat.sub_le_sub_right (Nat.le_trans (by omega) hroom25) _)
       clear hr25 hC25 hroom25 hi025 hsz25 hc25
       have KY25 := Aside0.mk hy25
       have KA25 := Aside0.mk hA25
       clear hy25 hA25
       replace q25 := eq_true q25
       refine start_ (n := 11) (S := fun w' => w'.cell? ⟨gb339, 0, none⟩ = some (.int .i64 a0_0) ∧ w'.cell? ⟨gb339, 1, none⟩ = some (.slice A0_1 l0_1.length c0_1)) (ds := []) (tb 11 0) (by kernel_rfl) rfl rfl ⟨ec BK339, ec BK339⟩ (fun hHeld => ?_); refine with_tabW spec_BestClue.tab7 spec_BestClue.bits7 (fun HT_ HW_ => ?_)
       generalize wr.drew = w24 at BK339 HB HR344 hHeld ⊢
       refine pu 0 (some 23) (tb 11 1) ?_
       refine pu 2 (some 25) (tb 11 5) ?_
       refine pu 4 (some 27) (tb 11 21) ?_
       refine pu 5 (some 28) (tb 11 53) ?_
       refine pu 6 (some 29) (tb 11 117) ?_
       refine tk 1 (some 24) (tb 11 119) hHeld ?_
       refine tk 3 (some 26) (tb 11 127) hHeld ?_
       refine pu 7 (some 30) (tb 11 255) ?_
       refine one_ (i := 8) (N := some 31) (tb 11 511) rfl rfl (one_of HT_.out (by kernel_rfl)) (by decide) (fun K hK => ?_)
       refine go1 Tryz.func36 #[.int .i64 a0_0, .slice A25 y341.length c25] ?_
       with_reducible refine (spec_pzAll.calls k2 a0_0 _ _ y341 t345 _ ?side1 ?side2 A17.out).mono ?_
       (case side1 => exact cb HR344)
       (case side2 => exact HC344.out)
       rintro e w26 ⟨v346, rfl, ho0, hb⟩
       refine ⟨_, rfl, ?_⟩
       have HO347 := Aside0.mk (Kd.R_lower ho0 (below_size bw))
       replace BK339 := nk BK339 hb
       replace HB := bs hb
       (try clear hb)
       (try clear ho0)
       obtain ⟨Ao27, co27, eo27⟩ := Kd.R_slice HO347.out
       (first | subst eo27 | (injection eo27 with f1_ f2_ f3_; have f4_ := f1_.symm; have f5_ := f3_.symm; clear f1_ f2_ f3_; subst f4_; subst f5_))
       refine hK.out _ _ ⟨ec BK339, ec BK339⟩ (fun hHeld => ?_)
       clear hK K
       refine nm (some 31) ?_
       refine pu 9 (some 32) (tb 11 1023) ?_
       refine pu 10 (some 7) (tb 11 2047) ?_
       refine done_ (done_of HT_.out (by kernel_rfl)) ?_
       try go_wp2
       go_roundg k2
       case measure => have := HJ1.out; have := HK2.out; omega
       case rel => exact ⟨(x20_2), ((t345.length : Int)), (wrap64 (x20_2 + 1)), (rs), (rs), (rs), H', ⟨by have := HJ1.out; have := HK2.out; omega⟩, ⟨pk BK339⟩, ⟨bw⟩⟩
      rw [if_neg c23] at H
      have c23b0 := decide_eq_false c23
      clear c23
      have H' := Aside0.mk H
      clear H
      try go_wp2
      replace BK339 := Aside0.mk (blk_drew BK339.out)
      replace HB := Aside0.mk (below_drew1 HB.out)
      have q29 : ((wrap64 (x20_2 + 1)) : Int) ≤ ((l0_1.length : Int) : Int) := of_decide_eq_true asm
      obtain ⟨i029, hi029, _, hsz29, _⟩ := info_parts info42
      have hroom29 : l0_1.length ≤ c0_1 := HC0_1.out
      have hC29 : Kd.C k42 _ A0_1 l0_1.length l0_1 := HR0_1.out
      have ql29 : (x20_2 : Int) ≤ ((wrap64 (x20_2 + 1)) : Int) := of_decide_eq_true asm
      have q029 : (0 : Int) ≤ (x20_2 : Int) := of_decide_eq_true asm
      have hcut29 := cut_mid (P := Tryz.prog) 22 42 .i64 .i64 Tryz.underlying22 hi029 4 hsz29 A0_1 l0_1.length c0_1 x20_2 (wrap64 (x20_2 + 1)) q029 ql29 q29 hroom29
      have hr29 := Kd.C_mid (lo := (x20_2 : Int).toNat) (hi := ((wrap64 (x20_2 + 1)) : Int).toNat) (c := c0_1) hC29 (by omega) (by omega) hroom29
      obtain ⟨A29, hA29⟩ : ∃ A1, A1 = (if c0_1 = (x20_2 : Int).toNat then A0_1 else (A0_1 : Option Addr).map (·.add ((x20_2 : Int).toNat * 4))) := ⟨_, rfl⟩
      obtain ⟨c29, hc29⟩ : ∃ c1, c1 = c0_1 - (x20_2 : Int).toNat := ⟨_, rfl⟩
      have hy29 : y341.length = ((wrap64 (x20_2 + 1)) : Int).toNat - (x20_2 : Int).toNat := (by rw [Ny341.out, List.length_drop, List.length_take] <;> omega)
      rw [show ((l0_1).take ((wrap64 (x20_2 + 1)) : Int).toNat).drop (x20_2 : Int).toNat = y341 from Ny341.out.symm] at hr29
      replace hr29 : Kd.C k42 _ A29 y341.length y341 := (by rw [hA29]; exact hr29)
      rw [← hy29, ← hA29, ← hc29] at hcut29
      have HR344 := Aside0.mk hr29
      have HC344 := Aside0.mk (show y341.length ≤ c29 from by rw [hy29, hc29]; exact Nat.sub_le_sub_right (Nat.le_trans (by omega) hroom29) _)
      clear hr29 hC29 hroom29 hi029 hsz29 hc29
      have KY29 := Aside0.mk hy29
      have KA29 := Aside0.mk hA29
      clear hy29 hA29
      replace q29 := eq_true q29
      refine start_ (n := 11) (S := fun w' => w'.cell? ⟨gb339, 0, none⟩ = some (.int .i64 a0_0) ∧ w'.cell? ⟨gb339, 1, none⟩ = some (.slice A0_1 l0_1.length c0_1)) (ds := []) (tb 11 0) (by kernel_rfl) rfl rfl ⟨ec BK339, ec BK339⟩ (fun hHeld => ?_); refine with_tabW spec_BestClue.tab7 spec_BestClue.bits7 (fun HT_ HW_ => ?_)
      generalize wr.drew = w28 at BK339 HB HR344 hHeld ⊢
      refine pu 0 (some 23) (tb 11 1) ?_
      refine pu 2 (some 25) (tb 11 5) ?_
      refine pu 4 (some 27) (tb 11 21) ?_
      refine pu 5 (some 28) (tb 11 53) ?_
      refine pu 6 (some 29) (tb 11 117) ?_
      refine tk 1 (some 24) (tb 11 119) hHeld ?_
      refine tk 3 (some 26) (tb 11 127) hHeld ?_
      refine pu 7 (some 30) (tb 11 255) ?_
      refine one_ (i := 8) (N := some 31) (tb 11 511) rfl rfl (one_of HT_.out (by kernel_rfl)) (by decide) (fun K hK => ?_)
      refine go1 Tryz.func36 #[.int .i64 a0_0, .slice A29 y341.length c29] ?_
      with_reducible refine (spec_pzAll.calls k2 a0_0 _ _ y341 t345 _ ?side1 ?side2 A17.out).mono ?_
      (case side1 => exact cb HR344)
      (case side2 => exact HC344.out)
      rintro e w30 ⟨v346, rfl, ho0, hb⟩
      refine ⟨_, rfl, ?_⟩
      have HO347 := Aside0.mk (Kd.R_lower ho0 (below_size bw))
      replace BK339 := nk BK339 hb
      replace HB := bs hb
      (try clear hb)
      (try clear ho0)
      obtain ⟨Ao31, co31, eo31⟩ := Kd.R_slice HO347.out
      (first | subst eo31 | (injection eo31 with f1_ f2_ f3_; have f4_ := f1_.symm; have f5_ := f3_.symm; clear f1_ f2_ f3_; subst f4_; subst f5_))
      refine hK.out _ _ ⟨ec BK339, ec BK339⟩ (fun hHeld => ?_)
      clear hK K
      refine nm (some 31) ?_
      refine pu 9 (some 32) (tb 11 1023) ?_
      refine pu 10 (some 7) (tb 11 2047) ?_
      refine done_ (done_of HT_.out (by kernel_rfl)) ?_
      try go_wp2
      go_roundg k2
      case measure => have := HJ1.out; have := HK2.out; omega
      case rel => exact ⟨(x4_2), (x5_2), (wrap64 (x20_2 + 1)), (rs), (rs), (rs), H', ⟨by have := HJ1.out; have := HK2.out; omega⟩, ⟨pk BK339⟩, ⟨bw⟩⟩
     rw [if_neg c13] at H
     have c13b0 := decide_eq_false c13
     clear c13
     simp only [Option.some.injEq, Prod.mk.injEq] at H
     obtain ⟨rfl, rfl⟩ := H
     go_wp2
     go_ret2
     exact ⟨rs, bw⟩

/-! ### strconv_Itoa: function 61 -/
def strconv_Itoa.f (a0 : Int) : Option ByteArray := if 0 ≤ a0 ∧ a0 < 100 then some ⟨(Lib.decDigits a0.toNat).toArray⟩ else none
theorem strconv_Itoa.calls (a0 : Int) (r : ByteArray) (w : World) (h : strconv_Itoa.f a0 = some r) :
  Calls Tryz.prog 61 #[.int .i64 a0] w fun e w' => e = .returned (.string r) ∧ Below w.heap.size w w' := by
 unfold strconv_Itoa.f at h
 split at h
 ·next hc =>
  obtain rfl := Option.some.inj h
  obtain ⟨i, rfl⟩ : ∃ i : Nat, a0 = i := ⟨a0.toNat, by omega⟩
  have c : Calls Tryz.prog 61 #[.int .i64 (i : Int)] w _ := Any.strconv_Itoa_small Tryz.lays171 i (by omega) w
  exact c.mono fun e w' ⟨h1, h2⟩ => ⟨by rw [h1, Int.toNat_natCast], h2 ▸ Below.refl _ _⟩
 cases h

/-! ### strings_Join: function 62 -/
def strings_Join.f (l0 : List ByteArray) (a1 : ByteArray) : Option ByteArray := if l0.length ≤ 140737488355328 ∧ (Lib.join (l0.map (·.data.toList)) a1.data.toList).length ≤ 140737488355328 then some ⟨(Lib.join (l0.map (·.data.toList)) a1.data.toList).toArray⟩ else none
theorem strings_Join_plain {α : Type} {d : Kd α} {e : Nat} {w : World} {base : Nat} {ok : Nat → Prop} {A : Option Addr} {n c : Nat} {xs : List α} (h : d.R e w base ok (.slice A n c) xs) : A = none ∨ ∃ g, A = some ⟨g, 0, none⟩ := by
  obtain ⟨_, inner, ho, _⟩ := h
  rcases ho.2 with ⟨h1, _⟩ | ⟨g, cap, cur, h1, _⟩
  · injection h1 with h1 _ _; exact .inl h1
  · injection h1 with h1 _ _; exact .inr ⟨g, h1⟩
theorem strings_Join.calls (A0 : Option Addr) (c0 : Nat) (l0 : List ByteArray) (a1 : ByteArray) (r : ByteArray) (w : World) (hr0 : Kd.C Kd.string w A0 l0.length l0) (hc0 : l0.length ≤ c0) (hp0 : A0 = none ∨ ∃ g, A0 = some ⟨g, 0, none⟩) (h : strings_Join.f l0 a1 = some r) :
  Calls Tryz.prog 62 #[.slice A0 l0.length c0, .string a1] w fun e w' => e = .returned (.string r) ∧ Below w.heap.size w w' := by
 unfold strings_Join.f at h
 split at h
 ·next hc =>
  obtain rfl := Option.some.inj h
  by_cases h0 : l0 = []
  ·subst h0
   have c : Calls Tryz.prog 62 #[.slice A0 0 c0, .string a1] w _ := Any.strings_Join_none Tryz.lays156 Tryz.Builder_Extra_156 A0 c0 a1 w
   exact c.mono fun e w' ⟨h1, h2⟩ => ⟨by rw [h1]; rfl, h2 ▸ Below.refl _ _⟩
  have hpos := List.length_pos_iff.2 h0
  have hlt := Kd.at_string hr0 0 (by omega) (by omega)
  rcases hp0 with rfl | ⟨g, rfl⟩
  ·obtain ⟨ad, e0, _⟩ := hlt
   cases e0
  have hcells : ∀ (j : Nat) x, l0[j]? = some x → w.cell? ⟨g, 0 + j, none⟩ = some (.string x) := by
   intro j x hj
   have hjl := (List.getElem?_eq_some_iff.1 hj).1
   obtain ⟨ad, e0, hx⟩ := Kd.at_string hr0 (j : Int) (by omega) (by omega)
   injection e0 with e0
   subst e0
   have ea : (⟨g, 0, none⟩ : Addr).add (j : Int).toNat = ⟨g, 0 + j, none⟩ := by
    unfold Addr.add
    rw [Int.toNat_natCast]
    split
    ·next hz => subst hz; rfl
    rfl
   rw [ea] at hx
   rw [hx]
   simp [rdOf, hj]
  exact Any.strings_Join Tryz.lays156 Tryz.Builder_Extra_156 g 0 c0 l0 a1 w hcells (World.block_lt_of_cell? w _ (hcells 0 _ (List.getElem?_eq_getElem hpos))) hc.1 hc0 hc.2
 cases h

end Go.Proofs.YtfaakdokcldnkaaGreatDoor.PFnRowsGuessedOfAll
