-- Laid by xprint, a program of this session that runs over the kit's print.
import Derived.Test.YtfaakdokcldnkaaGreatDoorPFnRowsGuessedOfAllx7
namespace Go.Proofs.YtfaakdokcldnkaaGreatDoor.PFnRowsGuessedOfAll
open Go.RowKit Go.Proofs.YtfaakdokcldnkaaGreatDoorW.PrintWords Go.Proofs.YtfaakdokcldnkaaGreatDoorW.PrintLast Go.Proofs.YtfaakdokcldnkaaGreatDoorW.PrintMore Go.Proofs.YtfaakdokcldnkaaGreatDoor.Sq
attribute [local go_sem] max2_int min2_int max_two min_two max_three min_three max_four min_four   -- for this text's walks alone
set_option linter.unusedVariables false
set_option linter.unusedSimpArgs false

/-! ### spec_SureSigns: function 11 -/
mutual
def spec_SureSigns.l0 : Nat → List ByteArray → ByteArray → Int → Int → List (S42) → Option (ByteArray × Bool)
  | 0, _, _, _, _, _ => none
  | k + 1, x4, x5, x6, x238000, x238001 => if x6 < x238000 then (if 0 < (x4.length : Int) then (if 0 ≤ x6 then (if x6 ≤ (wrap64 (x6 + 1)) then (if (wrap64 (x6 + 1)) ≤ ((rdOf ByteArray.empty x4 0).size : Int) then (spec_SureSigns.l1 k x4 x5 x6 ((rdOf ByteArray.empty x4 0).extract (x6 : Int).toNat ((wrap64 (x6 + 1)) : Int).toNat) x4 (x4.length : Int) 0 x238000 x238001) else (none)) else (none)) else (none)) else (none)) else (some (x5, true))
def spec_SureSigns.l1 : Nat → List ByteArray → ByteArray → Int → ByteArray → List ByteArray → Int → Int → Int → List (S42) → Option (ByteArray × Bool)
  | 0, _, _, _, _, _, _, _, _, _ => none
  | k + 1, x4, x5, x6, x7, x34, x35, x36, x238000, x238001 => if x36 < x35 then (if 0 ≤ x36 then (if x36 < (x34.length : Int) then (if 0 ≤ x6 then (if x6 ≤ (wrap64 (x6 + 1)) then (if (wrap64 (x6 + 1)) ≤ ((rdOf ByteArray.empty x34 x36).size : Int) then (if ((rdOf ByteArray.empty x34 x36).extract (x6 : Int).toNat ((wrap64 (x6 + 1)) : Int).toNat).toList = x7.toList then (spec_SureSigns.l1 k x4 x5 x6 x7 x34 x35 (wrap64 (x36 + 1)) x238000 x238001) else (if x5.size + 1 ≤ 9223372036854775807 then (spec_SureSigns.l0 k x4 (x5 ++ (⟨#[63]⟩ : ByteArray)) (wrap64 (x6 + 1)) x238000 x238001) else (none))) else (none)) else (none)) else (none)) else (none)) else (none)) else (if x5.size + x7.size ≤ 9223372036854775807 then (spec_SureSigns.l0 k x4 (x5 ++ x7) (wrap64 (x6 + 1)) x238000 x238001) else (none))
end
def spec_SureSigns.f (k : Nat) (a0_0 : Int) (l0_1 : List (S42)) : Option (ByteArray × Bool) := (spec_pzGood.f k a0_0 l0_1).bind fun t238 => (if t238 = true then ((spec_pzAll.f k a0_0 l0_1).bind fun t239 => (if (t239.length : Int) = 0 then (some ((⟨#[]⟩ : ByteArray), false)) else (spec_SureSigns.l0 k t239 (⟨#[]⟩ : ByteArray) 0 a0_0 l0_1))) else (some ((⟨#[]⟩ : ByteArray), false)))
theorem spec_SureSigns.mono_l : ∀ k, (∀ y0 y1 y2 y3 y4, LeO (spec_SureSigns.l0 k y0 y1 y2 y3 y4) (spec_SureSigns.l0 (k + 1) y0 y1 y2 y3 y4)) ∧ (∀ y0 y1 y2 y3 y4 y5 y6 y7 y8, LeO (spec_SureSigns.l1 k y0 y1 y2 y3 y4 y5 y6 y7 y8) (spec_SureSigns.l1 (k + 1) y0 y1 y2 y3 y4 y5 y6 y7 y8))
  | 0 => ⟨fun _ _ _ _ _ r h => by simp [spec_SureSigns.l0] at h, fun _ _ _ _ _ _ _ _ _ r h => by simp [spec_SureSigns.l1] at h⟩
  | k + 1 => by
    obtain ⟨ih0, ih1⟩ := spec_SureSigns.mono_l k
    refine ⟨?q0, ?q1⟩
    case' q0 => (intros; unfold spec_SureSigns.l0)
    case' q1 => (intros; unfold spec_SureSigns.l1)
    all_goals repeat' first
     | (with_reducible exact ih0 _ _ _ _ _)
     | (with_reducible exact ih1 _ _ _ _ _ _ _ _ _)
     | (with_reducible exact spec_pzAll.mono _ _ _)
     | (with_reducible exact spec_pzGood.mono _ _ _)
     | (with_reducible exact LeO.refl _)
     | (with_reducible exact LeO.none _)
     | (with_reducible refine LeO.ite ?_ ?_)
     | (with_reducible refine LeO.bind ?_ (fun _ => ?_))
     | exact ih0 _ _ _ _ _
     | exact ih1 _ _ _ _ _ _ _ _ _
     | exact spec_pzAll.mono _ _ _
     | exact spec_pzGood.mono _ _ _
     | exact LeO.none _
     | refine LeO.ite ?_ ?_
     | refine LeO.bind ?_ (fun _ => ?_)
theorem spec_SureSigns.mono : ∀ a0 a1 k, LeO (spec_SureSigns.f k a0 a1) (spec_SureSigns.f (k + 1) a0 a1) := by
  intro a0 a1 k
  obtain ⟨ih0, ih1⟩ := spec_SureSigns.mono_l k
  unfold spec_SureSigns.f
  repeat' first
      | (with_reducible exact ih0 _ _ _ _ _)
      | (with_reducible exact ih1 _ _ _ _ _ _ _ _ _)
      | (with_reducible exact spec_pzAll.mono _ _ _)
      | (with_reducible exact spec_pzGood.mono _ _ _)
      | (with_reducible exact LeO.refl _)
      | (with_reducible exact LeO.none _)
      | (with_reducible refine LeO.ite ?_ ?_)
      | (with_reducible refine LeO.bind ?_ (fun _ => ?_))
      | exact ih0 _ _ _ _ _
      | exact ih1 _ _ _ _ _ _ _ _ _
      | exact spec_pzAll.mono _ _ _
      | exact spec_pzGood.mono _ _ _
      | exact LeO.none _
      | refine LeO.ite ?_ ?_
      | refine LeO.bind ?_ (fun _ => ?_)
set_option maxHeartbeats 8000000 in
set_option maxRecDepth 100000 in
theorem spec_SureSigns.calls (k : Nat) (a0_0 : Int) (A0_1 : Option Addr) (c0_1 : Nat) (l0_1 : List (S42)) (r1 : ByteArray) (r2 : Bool) (w : World) (hr0_1 : Kd.C k42 w A0_1 l0_1.length l0_1) (hc0_1 : l0_1.length ≤ c0_1) (h : spec_SureSigns.f k a0_0 l0_1 = some (r1, r2)) :
  Calls Tryz.prog 11 #[.agg #[.int .i64 a0_0, .slice A0_1 l0_1.length c0_1]] w fun e w' => e = .returned (.tuple #[.string r1, .bool r2]) ∧ Below w.heap.size w w' := by
 have hu24 := Tryz.underlying24
 have HR0_1 := Aside0.mk hr0_1
 have HC0_1 := Aside0.mk hc0_1
 clear hr0_1 hc0_1
 have HB := Aside0.mk (Below.refl w.heap.size w)
 unfold spec_SureSigns.f at h
 have H := h
 clear h
 obtain ⟨t238, A2, H⟩ := ob H
 (try dsimp only at H)
 go_enter Tryz.func11, Tryz.ntmps11
 go_wp2_with (((with_reducible refine gd 1 ?_); refine bx 1 24 #[.int .i64 a0_0, .slice A0_1 l0_1.length c0_1] ?_; intro gb237 hg w6 hbox hb; have BK237 := hbox; have GW237 := gs hg; have GE237 := gs hg; replace HB := bs hb; clear hb hbox hg; obtain ⟨hcz7_0, hcz7_1, hfz7_0, hfz7_1⟩ := z2 BK237; refine halt ?_))
 by_cases c3 : t238 = true
 ·subst c3
  rw [if_pos rfl] at H
  obtain ⟨t239, A4, H⟩ := ob H
  (try dsimp only at H)
  refine Aside0.mk ?_
  try go_wp2_with (((with_reducible refine gc 35 ?_); refine gl (some 11) Tryz.func35 #[.agg #[.int .i64 a0_0, .slice A0_1 l0_1.length c0_1]] ?_; (with_reducible refine (spec_pzGood.calls k a0_0 _ _ l0_1 true _ ?_ ?_ A2.out).mono ?_); exact cb HR0_1; exact HC0_1.out; rintro e w8 ⟨rfl, hb⟩; refine ⟨_, rfl, ?_⟩; replace BK237 := nk BK237 hb; replace HB := bs hb; (try clear hb); obtain ⟨hcz9_0, hcz9_1, hfz9_0, hfz9_1⟩ := z2 BK237; refine halt ?_))
  by_cases c5 : (t239.length : Int) = 0
  ·rw [if_pos c5] at H
   have c5b0 : ((t239.length : Int) == 0) = true := beq_iff_eq.mpr c5
   have c5b1 : ((t239.length : Int) != 0) = false := bne_eq_false_iff_eq.mpr c5
   clear c5
   simp only [Option.some.injEq, Prod.mk.injEq] at H
   obtain ⟨rfl, rfl⟩ := H
   refine Aside0.mk ?_
   try go_wp2_with (((with_reducible refine gc 36 ?_); refine gl (some 17) Tryz.func36 #[.int .i64 a0_0, .slice A0_1 l0_1.length c0_1] ?_; (with_reducible refine (spec_pzAll.calls k a0_0 _ _ l0_1 t239 _ ?_ ?_ A4.out).mono ?_); exact cb HR0_1; exact HC0_1.out; rintro e w10 ⟨v240, rfl, ho0, hb⟩; refine ⟨_, rfl, ?_⟩; have HO241 := Aside0.mk (Kd.R_lower ho0 (below_size bw)); replace HB := bs hb; (try clear hb); (try clear ho0); obtain ⟨Ao11, co11, eo11⟩ := Kd.R_slice HO241.out; subst eo11))
   go_ret2
   exact ⟨rs, bw⟩
  rw [if_neg c5] at H
  have c5b0 : ((t239.length : Int) == 0) = false := beq_eq_false_iff_ne.mpr c5
  have c5b1 : ((t239.length : Int) != 0) = true := bne_iff_ne.mpr c5
  have c5b2 : ¬ (t239 = []) := fun h_ => c5 (by rw [h_]; rfl)
  have H' := Aside0.mk H
  clear H
  refine Aside0.mk ?_
  try go_wp2_with (((with_reducible refine gc 36 ?_); refine gl (some 17) Tryz.func36 #[.int .i64 a0_0, .slice A0_1 l0_1.length c0_1] ?_; (with_reducible refine (spec_pzAll.calls k a0_0 _ _ l0_1 t239 _ ?_ ?_ A4.out).mono ?_); exact cb HR0_1; exact HC0_1.out; rintro e w16 ⟨v240, rfl, ho0, hb⟩; refine ⟨_, rfl, ?_⟩; have HO241 := Aside0.mk (Kd.R_lower ho0 (below_size bw)); replace BK237 := nk BK237 hb; replace HB := bs hb; (try clear hb); (try clear ho0); obtain ⟨Ao17, co17, eo17⟩ := Kd.R_slice HO241.out; subst eo17))
  go_loopg [5, 6] k (fun kq v5 v6 w' => ∃ (x5_1 : ByteArray) (x6_1 : Int), v5 = .string x5_1 ∧ v6 = .int .i64 x6_1 ∧ Aside0 (spec_SureSigns.l0 kq t239 x5_1 x6_1 a0_0 l0_1 = some (r1, r2)) ∧ Aside0 (kq ≤ k) ∧ Aside0 (Kd.R Kd.string 9 w' w.heap.size (fun _ => True) (.slice Ao17 t239.length co17) t239) ∧ Aside0 (w'.heap[gb237]? = some (.cells #[.int .i64 a0_0, (.slice A0_1 l0_1.length c0_1)] 24 (0, 0))) ∧ Aside0 (Below w.heap.size w w'))
  case atStart => exact ⟨((⟨#[]⟩ : ByteArray)), (0), (rs), (rs), H', ⟨Nat.le_refl _⟩, ⟨pr HO241⟩, ⟨pk BK237⟩, ⟨bw⟩⟩
  case round =>
   clear H'
   try clear c1
   try clear p2
   try clear c3
   try clear c5
   try clear c5b0
   try clear c5b1
   try clear c5b2
   try clear c11
   try clear hcz7_0
   try clear hcz7_1
   try clear hcz9_0
   try clear hcz9_1
   try clear hcz7_0
   try clear hcz7_1
   try clear hcz9_0
   try clear hcz9_1
   try clear hfz7_0
   try clear hfz7_1
   try clear hfz9_0
   try clear hfz9_1
   try clear hfz7_0
   try clear hfz7_1
   try clear hfz9_0
   try clear hfz9_1
   obtain ⟨x5_1, x6_1, rfl, rfl, HA, HK1, HO_4, BK237, HB⟩ := hrel
   cases gk with
   | zero => exact absurd HA.out (by simp [spec_SureSigns.l0])
   | succ k1 =>
    have H := HA.out
    clear HA
    simp only [spec_SureSigns.l0] at H
    by_cases c18 : x6_1 < a0_0
    ·rw [if_pos c18] at H
     have c18b0 := decide_eq_true c18
     clear c18
     obtain ⟨c19, H⟩ := oi H
     have c19b0 := decide_eq_true c19
     have c19b1 : decide (0 < t239.length) = true := decide_eq_true (by omega)
     clear c19
     obtain ⟨c20, H⟩ := oi H
     have c20b0 := eq_true c20
     have c20b1 := decide_eq_true c20
     clear c20
     obtain ⟨c21, H⟩ := oi H
     have c21b0 := eq_true c21
     have c21b1 := decide_eq_true c21
     obtain ⟨c22, H⟩ := oi H
     have c22b0 := eq_true c22
     have c22b1 := decide_eq_true c22
     have H' := Aside0.mk H
     clear H
     have hcz23_0 : wr.cell? ⟨gb237, 0, none⟩ = some (.int .i64 a0_0) := ec BK237
     have hcz23_1 : wr.cell? ⟨gb237, 1, none⟩ = some (.slice A0_1 l0_1.length c0_1) := ec BK237
     have hfz23_0 := blk_frozen BK237.out 0
     have hfz23_1 := blk_frozen BK237.out 1
     have p242 : 0 ≤ (0 : Int) := (by omega)
     have q242 : 0 < (t239.length : Int) := of_decide_eq_true asm
     obtain ⟨ad242, e242, hx242_0⟩ := Kd.at_string (Kd.R_reads' HO_4.out).2.2 0 p242 q242
     cases e242
     have qi242 : (0 < t239.length) = True := eq_true (by omega)
     (try rw [show ((0 : Int)).toNat = 0 from rfl] at hx242_0)
     (try rw [Addr.add_zero'] at hx242_0)
     replace p242 := eq_true p242
     replace q242 := eq_true q242
     go_wp2
     go_loopg [7, 36] k1 (fun kq v7 v36 w' => ∃ (x7_2 : ByteArray) (x36_2 : Int), v7 = .string x7_2 ∧ v36 = .int .i64 x36_2 ∧ Aside0 (spec_SureSigns.l1 kq t239 x5_1 x6_1 x7_2 t239 (t239.length : Int) x36_2 a0_0 l0_1 = some (r1, r2)) ∧ Aside0 (kq ≤ k1) ∧ Aside0 (Kd.R Kd.string 9 w' w.heap.size (fun _ => True) (.slice (some ad242) t239.length co17) t239) ∧ Aside0 (Kd.R Kd.string 9 w' w.heap.size (fun _ => True) (.slice (some ad242) t239.length co17) t239) ∧ Aside0 (w'.heap[gb237]? = some (.cells #[.int .i64 a0_0, (.slice A0_1 l0_1.length c0_1)] 24 (0, 0))) ∧ Aside0 (Below w.heap.size w w'))
     case atStart => exact ⟨((rdOf ByteArray.empty t239 0).extract (x6_1 : Int).toNat ((wrap64 (x6_1 + 1)) : Int).toNat), (0), (rs), (rs), H', ⟨Nat.le_refl _⟩, ⟨pr HO_4⟩, ⟨pr HO_4⟩, ⟨pk BK237⟩, ⟨bw⟩⟩
     case round =>
      clear H'
      try clear c1
      try clear c2
      try clear p2
      try clear q2
      try clear hx2
      try clear qi2
      try clear c3
      try clear c5
      try clear c5b0
      try clear c5b1
      try clear c5b2
      try clear p6
      try clear c11
      try clear c18
      try clear c18b0
      try clear c19
      try clear c19b0
      try clear c19b1
      try clear c20
      try clear c20b0
      try clear c20b1
      try clear c21
      try clear c21b0
      try clear c21b1
      try clear c22
      try clear c22b0
      try clear c22b1
      try clear hcz7_0
      try clear hcz7_1
      try clear hcz9_0
      try clear hcz9_1
      try clear hcz23_0
      try clear hcz23_1
      try clear hcz7_0
      try clear hcz7_1
      try clear hcz9_0
      try clear hcz9_1
      try clear hfz7_0
      try clear hfz7_1
      try clear hfz9_0
      try clear hfz9_1
      try clear hfz23_0
      try clear hfz23_1
      try clear hfz7_0
      try clear hfz7_1
      try clear hfz9_0
      try clear hfz9_1
      try clear hx242_0
      try clear p2
      try clear p242
      try clear q242
      obtain ⟨x7_2, x36_2, rfl, rfl, HA, HK2, HO_4, HO_34, BK237, HB⟩ := hrel
      cases gk with
      | zero => exact absurd HA.out (by simp [spec_SureSigns.l1])
      | succ k2 =>
       have H := HA.out
       clear HA
       simp only [spec_SureSigns.l1] at H
       by_cases c24 : x36_2 < (t239.length : Int)
       ·rw [if_pos c24] at H
        have c24b0 := decide_eq_true c24
        clear c24
        obtain ⟨c25, H⟩ := oi H
        have c25b0 := decide_eq_true c25
        clear c25
        obtain ⟨c26, H⟩ := oi H
        have c26b0 := decide_eq_true c26
        clear c26
        obtain ⟨c27, H⟩ := oi H
        have c27b0 := eq_true c27
        have c27b1 := decide_eq_true c27
        clear c27
        obtain ⟨c28, H⟩ := oi H
        have c28b0 := eq_true c28
        have c28b1 := decide_eq_true c28
        obtain ⟨c29, H⟩ := oi H
        have c29b0 := eq_true c29
        have c29b1 := decide_eq_true c29
        by_cases c30 : ((rdOf ByteArray.empty t239 x36_2).extract (x6_1 : Int).toNat ((wrap64 (x6_1 + 1)) : Int).toNat).toList = x7_2.toList
        ·rw [if_pos c30] at H
         have c30b0 : (((rdOf ByteArray.empty t239 x36_2).extract (x6_1 : Int).toNat ((wrap64 (x6_1 + 1)) : Int).toNat).toList == x7_2.toList) = true := beq_iff_eq.mpr c30
         have c30b1 : (((rdOf ByteArray.empty t239 x36_2).extract (x6_1 : Int).toNat ((wrap64 (x6_1 + 1)) : Int).toNat).toList != x7_2.toList) = false := bne_eq_false_iff_eq.mpr c30
         clear c30
         have H' := Aside0.mk H
         clear H
         have p243 : 0 ≤ (x36_2 : Int) := of_decide_eq_true asm
         have q243 : x36_2 < (t239.length : Int) := of_decide_eq_true asm
         obtain ⟨ad243, e243, hx243_0⟩ := Kd.at_string (Kd.R_reads' HO_34.out).2.2 x36_2 p243 q243
         obtain rfl : ad242 = ad243 := (by injection e243)
         replace p243 := eq_true p243
         replace q243 := eq_true q243
         go_wp2
         go_roundg k2
         case measure => have := HK1.out; have := HK2.out; omega
         case rel => exact ⟨(x7_2), (wrap64 (x36_2 + 1)), (rs), (rs), H', ⟨by have := HK1.out; have := HK2.out; omega⟩, ⟨pr HO_4⟩, ⟨pr HO_34⟩, ⟨pk BK237⟩, ⟨bw⟩⟩
        rw [if_neg c30] at H
        have c30b0 : (((rdOf ByteArray.empty t239 x36_2).extract (x6_1 : Int).toNat ((wrap64 (x6_1 + 1)) : Int).toNat).toList == x7_2.toList) = false := beq_eq_false_iff_ne.mpr c30
        have c30b1 : (((rdOf ByteArray.empty t239 x36_2).extract (x6_1 : Int).toNat ((wrap64 (x6_1 + 1)) : Int).toNat).toList != x7_2.toList) = true := bne_iff_ne.mpr c30
        obtain ⟨c31, H⟩ := oi H
        have c31b0 := eq_true c31
        have c31b1 := decide_eq_true c31
        try have c31b2 : (9223372036854775807 < x5_1.size + 1) = False := eq_false (Nat.not_lt.2 c31)
        have H' := Aside0.mk H
        clear H
        have p243 : 0 ≤ (x36_2 : Int) := of_decide_eq_true asm
        have q243 : x36_2 < (t239.length : Int) := of_decide_eq_true asm
        obtain ⟨ad243, e243, hx243_0⟩ := Kd.at_string (Kd.R_reads' HO_34.out).2.2 x36_2 p243 q243
        obtain rfl : ad242 = ad243 := (by injection e243)
        replace p243 := eq_true p243
        replace q243 := eq_true q243
        go_wp2
        go_roundg k2
        case measure => have := HK1.out; have := HK2.out; omega
        case rel => exact ⟨(x5_1 ++ (⟨#[63]⟩ : ByteArray)), (wrap64 (x6_1 + 1)), (rs), (rs), H', ⟨by have := HK1.out; have := HK2.out; omega⟩, ⟨pr HO_4⟩, ⟨pk BK237⟩, ⟨bw⟩⟩
       rw [if_neg c24] at H
       have c24b0 := decide_eq_false c24
       clear c24
       obtain ⟨c32, H⟩ := oi H
       have c32b0 := eq_true c32
       have c32b1 := decide_eq_true c32
       try have c32b2 : (9223372036854775807 < x5_1.size + x7_2.size) = False := eq_false (Nat.not_lt.2 c32)
       have H' := Aside0.mk H
       clear H
       go_wp2
       go_roundg k2
       case measure => have := HK1.out; have := HK2.out; omega
       case rel => exact ⟨(x5_1 ++ x7_2), (wrap64 (x6_1 + 1)), (rs), (rs), H', ⟨by have := HK1.out; have := HK2.out; omega⟩, ⟨pr HO_4⟩, ⟨pk BK237⟩, ⟨bw⟩⟩
    rw [if_neg c18] at H
    have c18b0 := decide_eq_false c18
    clear c18
    simp only [Option.some.injEq, Prod.mk.injEq] at H
    obtain ⟨rfl, rfl⟩ := H
    have hcz33_0 : wr.cell? ⟨gb237, 0, none⟩ = some (.int .i64 a0_0) := ec BK237
    have hcz33_1 : wr.cell? ⟨gb237, 1, none⟩ = some (.slice A0_1 l0_1.length c0_1) := ec BK237
    have hfz33_0 := blk_frozen BK237.out 0
    have hfz33_1 := blk_frozen BK237.out 1
    go_wp2
    go_ret2
    exact ⟨rs, bw⟩
 replace c3 := Bool.eq_false_iff.mpr c3
 subst c3
 rw [if_neg (show ¬ (false = true) by decide)] at H
 simp only [Option.some.injEq, Prod.mk.injEq] at H
 obtain ⟨rfl, rfl⟩ := H
 refine Aside0.mk ?_
 try go_wp2_with (((with_reducible refine gc 35 ?_); refine gl (some 11) Tryz.func35 #[.agg #[.int .i64 a0_0, .slice A0_1 l0_1.length c0_1]] ?_; (with_reducible refine (spec_pzGood.calls k a0_0 _ _ l0_1 false _ ?_ ?_ A2.out).mono ?_); exact cb HR0_1; exact HC0_1.out; rintro e w36 ⟨rfl, hb⟩; refine ⟨_, rfl, ?_⟩; replace HB := bs hb; (try clear hb)))
 go_ret2
 exact ⟨rs, bw⟩

/-! ### impl_IsSolved: function 12 -/
def impl_IsSolved.f (k : Nat) (a0_0 : Int) (l0_1 : List (S42)) : Option (Bool × Bool) := (impl_Solutions.f k a0_0 l0_1).bind fun bt245 => (some (((bt245.1.length : Int) == 1), bt245.2))
theorem impl_IsSolved.mono : ∀ a0 a1 k, LeO (impl_IsSolved.f k a0 a1) (impl_IsSolved.f (k + 1) a0 a1) := by
  intro a0 a1 k
  unfold impl_IsSolved.f
  repeat' first
      | (with_reducible exact impl_Solutions.mono _ _ _)
      | (with_reducible exact LeO.refl _)
      | (with_reducible exact LeO.none _)
      | (with_reducible refine LeO.ite ?_ ?_)
      | (with_reducible refine LeO.bind ?_ (fun _ => ?_))
      | exact impl_Solutions.mono _ _ _
      | exact LeO.none _
      | refine LeO.ite ?_ ?_
      | refine LeO.bind ?_ (fun _ => ?_)
set_option maxHeartbeats 8000000 in
set_option maxRecDepth 100000 in
theorem impl_IsSolved.calls (k : Nat) (a0_0 : Int) (A0_1 : Option Addr) (c0_1 : Nat) (l0_1 : List (S42)) (r1 : Bool) (r2 : Bool) (w : World) (hm : Dr.Tab w) (hr0_1 : Kd.C k42 w A0_1 l0_1.length l0_1) (hc0_1 : l0_1.length ≤ c0_1) (h : impl_IsSolved.f k a0_0 l0_1 = some (r1, r2)) :
  Calls Tryz.prog 12 #[.agg #[.int .i64 a0_0, .slice A0_1 l0_1.length c0_1]] w fun e w' => e = .returned (.tuple #[.bool r1, .bool r2]) ∧ Below w.heap.size w w' := by
 have hu24 := Tryz.underlying24
 have HR0_1 := Aside0.mk hr0_1
 have HC0_1 := Aside0.mk hc0_1
 clear hr0_1 hc0_1
 have HB := Aside0.mk (Below.refl w.heap.size w)
 have HMM := Aside0.mk hm
 clear hm
 unfold impl_IsSolved.f at h
 have H := h
 clear h
 obtain ⟨⟨t245, t248⟩, A2, H⟩ := ob H
 (try dsimp only at H)
 simp only [Option.some.injEq, Prod.mk.injEq] at H
 obtain ⟨rfl, rfl⟩ := H
 go_enter Tryz.func12, Tryz.ntmps12
 go_wp2_with (first | ((with_reducible refine gd 1 ?_); refine bx 1 24 #[.int .i64 a0_0, .slice A0_1 l0_1.length c0_1] ?_; intro gb244 hg w3 hbox hb; have BK244 := hbox; have GW244 := gs hg; have GE244 := gs hg; replace HB := bs hb; clear hb hbox hg; have hz4 := z2 BK244) | ((with_reducible refine gc 4 ?_); refine gl (some 8) Tryz.func4 #[.agg #[.int .i64 a0_0, .slice A0_1 l0_1.length c0_1]] ?_; (with_reducible refine (impl_Solutions.calls k a0_0 _ _ l0_1 t245 t248 _ ?_ ?_ ?_ A2.out).mono ?_); exact Dr.mm HMM; exact cb HR0_1; exact HC0_1.out; rintro e w5 ⟨v246, rfl, ho0, hb⟩; refine ⟨_, rfl, ?_⟩; have HO247 := Aside0.mk (Kd.R_lower ho0 (below_size bw)); replace HB := bs hb; (try clear hb); (try clear ho0); obtain ⟨Ao6, co6, eo6⟩ := Kd.R_slice HO247.out; subst eo6))
 go_ret2
 exact ⟨rs, bw⟩

/-! ### spec_pzSolved: function 37 -/
def spec_pzSolved.f (k : Nat) (a0 : Int) (l1 : List (S42)) : Option (Bool) := (spec_pzAll.f k a0 l1).bind fun t249 => (some ((t249.length : Int) == 1))
theorem spec_pzSolved.mono : ∀ a0 a1 k, LeO (spec_pzSolved.f k a0 a1) (spec_pzSolved.f (k + 1) a0 a1) := by
  intro a0 a1 k
  unfold spec_pzSolved.f
  repeat' first
      | (with_reducible exact spec_pzAll.mono _ _ _)
      | (with_reducible exact LeO.refl _)
      | (with_reducible exact LeO.none _)
      | (with_reducible refine LeO.ite ?_ ?_)
      | (with_reducible refine LeO.bind ?_ (fun _ => ?_))
      | exact spec_pzAll.mono _ _ _
      | exact LeO.none _
      | refine LeO.ite ?_ ?_
      | refine LeO.bind ?_ (fun _ => ?_)
set_option maxHeartbeats 8000000 in
set_option maxRecDepth 100000 in
theorem spec_pzSolved.calls (k : Nat) (a0 : Int) (A1 : Option Addr) (c1 : Nat) (l1 : List (S42)) (r : Bool) (w : World) (hr1 : Kd.C k42 w A1 l1.length l1) (hc1 : l1.length ≤ c1) (h : spec_pzSolved.f k a0 l1 = some r) :
  Calls Tryz.prog 37 #[.int .i64 a0, .slice A1 l1.length c1] w fun e w' => e = .returned (.bool r) ∧ Below w.heap.size w w' := by
 have HR1 := Aside0.mk hr1
 have HC1 := Aside0.mk hc1
 clear hr1 hc1
 have HB := Aside0.mk (Below.refl w.heap.size w)
 unfold spec_pzSolved.f at h
 have H := h
 clear h
 obtain ⟨t249, A3, H⟩ := ob H
 (try dsimp only at H)
 obtain rfl := Option.some.inj H
 go_enter Tryz.func37, Tryz.ntmps37
 go_wp2_with (first | ((with_reducible refine gc 36 ?_); refine gl (some 7) Tryz.func36 #[.int .i64 a0, .slice A1 l1.length c1] ?_; (with_reducible refine (spec_pzAll.calls k a0 _ _ l1 t249 _ ?_ ?_ A3.out).mono ?_); exact cr HR1; exact HC1.out; rintro e w4 ⟨v250, rfl, ho0, hb⟩; refine ⟨_, rfl, ?_⟩; have HO251 := Aside0.mk (Kd.R_lower ho0 (below_size bw)); replace HB := bs hb; (try clear hb); (try clear ho0); obtain ⟨Ao5, co5, eo5⟩ := Kd.R_slice HO251.out; subst eo5))
 go_ret
 exact ⟨rs, bw⟩

/-! ### spec_IsSolved: function 13 -/
def spec_IsSolved.f (k : Nat) (a0_0 : Int) (l0_1 : List (S42)) : Option (Bool × Bool) := (spec_pzGood.f k a0_0 l0_1).bind fun t253 => (if t253 = true then ((spec_pzSolved.f k a0_0 l0_1).bind fun t254 => (some (t254, true))) else (some (false, false)))
theorem spec_IsSolved.mono : ∀ a0 a1 k, LeO (spec_IsSolved.f k a0 a1) (spec_IsSolved.f (k + 1) a0 a1) := by
  intro a0 a1 k
  unfold spec_IsSolved.f
  repeat' first
      | (with_reducible exact spec_pzGood.mono _ _ _)
      | (with_reducible exact spec_pzSolved.mono _ _ _)
      | (with_reducible exact LeO.refl _)
      | (with_reducible exact LeO.none _)
      | (with_reducible refine LeO.ite ?_ ?_)
      | (with_reducible refine LeO.bind ?_ (fun _ => ?_))
      | exact spec_pzGood.mono _ _ _
      | exact spec_pzSolved.mono _ _ _
      | exact LeO.none _
      | refine LeO.ite ?_ ?_
      | refine LeO.bind ?_ (fun _ => ?_)
set_option maxHeartbeats 8000000 in
set_option maxRecDepth 100000 in
theorem spec_IsSolved.calls (k : Nat) (a0_0 : Int) (A0_1 : Option Addr) (c0_1 : Nat) (l0_1 : List (S42)) (r1 : Bool) (r2 : Bool) (w : World) (hr0_1 : Kd.C k42 w A0_1 l0_1.length l0_1) (hc0_1 : l0_1.length ≤ c0_1) (h : spec_IsSolved.f k a0_0 l0_1 = some (r1, r2)) :
  Calls Tryz.prog 13 #[.agg #[.int .i64 a0_0, .slice A0_1 l0_1.length c0_1]] w fun e w' => e = .returned (.tuple #[.bool r1, .bool r2]) ∧ Below w.heap.size w w' := by
 have hu24 := Tryz.underlying24
 have HR0_1 := Aside0.mk hr0_1
 have HC0_1 := Aside0.mk hc0_1
 clear hr0_1 hc0_1
 have HB := Aside0.mk (Below.refl w.heap.size w)
 unfold spec_IsSolved.f at h
 have H := h
 clear h
 obtain ⟨t253, A2, H⟩ := ob H
 (try dsimp only at H)
 go_enter Tryz.func13, Tryz.ntmps13
 go_wp2_with (((with_reducible refine gd 1 ?_); refine bx 1 24 #[.int .i64 a0_0, .slice A0_1 l0_1.length c0_1] ?_; intro gb252 hg w5 hbox hb; have BK252 := hbox; have GW252 := gs hg; have GE252 := gs hg; replace HB := bs hb; clear hb hbox hg; have hz6 := z2 BK252; refine halt ?_))
 by_cases c3 : t253 = true
 ·subst c3
  rw [if_pos rfl] at H
  obtain ⟨t254, A4, H⟩ := ob H
  (try dsimp only at H)
  simp only [Option.some.injEq, Prod.mk.injEq] at H
  obtain ⟨rfl, rfl⟩ := H
  refine Aside0.mk ?_
  try go_wp2_with (first | ((with_reducible refine gc 35 ?_); refine gl (some 5) Tryz.func35 #[.agg #[.int .i64 a0_0, .slice A0_1 l0_1.length c0_1]] ?_; (with_reducible refine (spec_pzGood.calls k a0_0 _ _ l0_1 true _ ?_ ?_ A2.out).mono ?_); exact cb HR0_1; exact HC0_1.out; rintro e w7 ⟨rfl, hb⟩; refine ⟨_, rfl, ?_⟩; replace BK252 := nk BK252 hb; replace HB := bs hb; (try clear hb); have hz8 := z2 BK252) | ((with_reducible refine gc 37 ?_); refine gl (some 11) Tryz.func37 #[.int .i64 a0_0, .slice A0_1 l0_1.length c0_1] ?_; (with_reducible refine (spec_pzSolved.calls k a0_0 _ _ l0_1 t254 _ ?_ ?_ A4.out).mono ?_); exact cb HR0_1; exact HC0_1.out; rintro e w9 ⟨rfl, hb⟩; refine ⟨_, rfl, ?_⟩; replace HB := bs hb; (try clear hb)))
  go_ret2
  exact ⟨rs, bw⟩
 replace c3 := Bool.eq_false_iff.mpr c3
 subst c3
 rw [if_neg (show ¬ (false = true) by decide)] at H
 simp only [Option.some.injEq, Prod.mk.injEq] at H
 obtain ⟨rfl, rfl⟩ := H
 refine Aside0.mk ?_
 try go_wp2_with (((with_reducible refine gc 35 ?_); refine gl (some 5) Tryz.func35 #[.agg #[.int .i64 a0_0, .slice A0_1 l0_1.length c0_1]] ?_; (with_reducible refine (spec_pzGood.calls k a0_0 _ _ l0_1 false _ ?_ ?_ A2.out).mono ?_); exact cb HR0_1; exact HC0_1.out; rintro e w12 ⟨rfl, hb⟩; refine ⟨_, rfl, ?_⟩; replace HB := bs hb; (try clear hb)))
 go_ret2
 exact ⟨rs, bw⟩

/-! ### impl_Clue: function 60 -/
def impl_Clue.f (l0 : List (S42)) : Option (List (S42)) := if l0.length < 4398046511104 then (some l0) else none
set_option maxHeartbeats 8000000 in
set_option maxRecDepth 100000 in
theorem impl_Clue.calls (A0 : Option Addr) (c0 : Nat) (l0 : List (S42)) (r : List (S42)) (w : World) (hr0 : Kd.C k42 w A0 l0.length l0) (hc0 : l0.length ≤ c0) (h : impl_Clue.f l0 = some r) :
  Calls Tryz.prog 60 #[.slice A0 l0.length c0] w fun e w' => ∃ v0_ : Value, e = .returned (v0_) ∧ Kd.R k42 42 w' w.heap.size (fun _ => True) v0_ r ∧ Below w.heap.size w w' := by
 have HR0 := Aside0.mk hr0
 have HC0 := Aside0.mk hc0
 clear hr0 hc0
 have HB := Aside0.mk (Below.refl w.heap.size w)
 unfold impl_Clue.f at h
 by_cases c2 : l0.length < 4398046511104
 ·rw [if_pos c2] at h
  have LMc2 := Aside0.mk c2
  clear c2
  obtain rfl := Option.some.inj h
  clear h
  have qnil : ∀ (w : World) (a : Option Addr) (n c n' c' : Nat), (binOp .eql 22 (.slice a n c) (.slice none n' c')).run Tryz.prog w = .ok (.bool a.isNone) w := fun w a n c n' c' => Lib.run_eql_slice_nil w _ _ a n c n' c' Tryz.underlying22
  cases A0 with
  | none =>
   obtain rfl : l0 = [] := by
    rcases l0 with _ | ⟨x, l0⟩
    ·rfl
    obtain ⟨ad, he, _⟩ := HR0.out.2.2 (by simp)
    cases he
   go_enter Tryz.func60, Tryz.ntmps60
   go_wp2
   go_ret
   exact ⟨_, rfl, Kd.R_nil _ _ _ _ _, by repeat (first | exact HB.out | apply pw_below_drewN)⟩
  | some ad0 =>
   obtain ⟨y172, hy172⟩ : ∃ y_ : List (S42), y_ = ([] : List (S42)) := ⟨_, rfl⟩
   have Ny172 := Aside0.mk hy172
   obtain ⟨y175, hy175⟩ : ∃ y_ : List (S42), y_ = y172 ++ l0 := ⟨_, rfl⟩
   have Ny175 := Aside0.mk hy175
   have E175 := Aside0.mk (show y175 = l0 by rw [hy175, hy172]; rfl)
   have LM := Aside0.mk (show y172.length + l0.length < 4398046511104 by rw [hy172]; simpa using LMc2.out)
   clear hy172 hy175
   go_enter Tryz.func60, Tryz.ntmps60
   go_wp2_with (first | ((with_reducible refine gd 5 ?_); refine Kd.R_lit k42 _ 42 ?hg (N := 5) ?hd (xs := ([] : List (S42))) (inner := []) (ok := fun _ => True) (okp := fun _ => True) ?hr ?hp (fun _ hk => hk) trivial (Below.refl _ _) (Nat.le_refl _) (by simp) ?_; (case hd => rfl); (case hg => rfl); (case hr => first | (go_simp; done) | (go_simp; rfl)); (case hp => exact (Reps.none _ _)); intro v173 w3 ho4 hb hg_ hnew_; clear hg_ hnew_; rw [← Ny172.out] at ho4; have HO174 := Aside0.mk (Kd.R_lower ho4 (below_size HB.out)); have n0_ := Aside0.mk (below_step HB.out hb); clear HB; have HB := n0_; clear n0_ hb ho4) | ((with_reducible refine gate_builtin (b := .append) (xs := #[.tmp 5, .tmp 6]) rfl ?_); at_builtin; refine Kd.R_append_rows k42 (w0 := w) w.heap.size rfl (.tmp 5) (.tmp 6) 22 42 (.agg #[(.int .i64 0), (.int .i64 0), (.int .i64 0), (.int .i64 0)]) 32 rfl Tryz.underlying22 info42 rfl (by decide) (by omega) v173 y172 l0 _ _ _ (fun _ => True) (fun _ => False) rfl rfl ?aO ?aR (fun _ _ h => h) (fun _ h => h.elim) ?aF ?aB ?aS ?aL ?_; (case aR => exact cb HR0); (case aB => repeat (first | exact HB.out | apply pw_below_drewN | apply below_alloc)); (case aF => exact (fun _ _ => trivial)); (case aO => (with_reducible repeat (first | apply Kd.R_alloc | apply Kd.R_drewN | apply Kd.R_drew)); exact HO174.out); (case aS => exact (below_size (by repeat (first | exact HB.out | apply pw_below_drewN | apply below_alloc)))); (case aL => have := LM.out; omega); intro v176 w5 ho hb hg hat; rw [← Ny175.out] at ho; have n0_ := Aside0.mk hb; have HO177 := Aside0.mk ho; clear HB HO174; have HB := n0_; clear n0_ ho hb hg hat))
   go_ret
   exact ⟨_, rfl, by (with_reducible repeat (first | apply Kd.R_alloc | apply Kd.R_drewN | apply Kd.R_drew)); exact E175.out ▸ HO177.out, by repeat (first | exact HB.out | apply pw_below_drewN)⟩
 rw [if_neg c2] at h
 exact absurd h (by simp)

/-! ### impl_without: function 38 -/
theorem impl_without_zero {P : Program} (w : World) (t e ty : TypeId) (z : Value) (m : Nat) (ht : P.underlying t = some (.slice e)) (hv : ∀ w, (zeroValue e).run P w = .ok z w) (hz : ∀ u ∈ (Builtin.zeroCells z.cells (m + 1)).toList, u.oneCell' = true) (b o c : Nat)
    (hc : ∀ j, j < (Builtin.zeroCells z.cells (m + 1)).toList.length → (w.cell? ⟨b, o + j, none⟩).isSome = true) (hf : ∀ j, j < (Builtin.zeroCells z.cells (m + 1)).toList.length → w.frozen? ⟨b, o + j, none⟩ = false) :
    (Builtin.clear_ #[t] ty #[.slice (some ⟨b, o, none⟩) (m + 1) c]).run P w = .ok (.tuple #[]) (w.setCells b o (Builtin.zeroCells z.cells (m + 1)).toList) := by
  have hst := run_storeCells_cells (P := P) b o (Builtin.zeroCells z.cells (m + 1)).toList 0 w (by simpa using hc) (by simpa using hf) hz
  simp only [Nat.add_zero] at hst
  simp [Builtin.clear_, run_underlying ht, hv]
  simpa using congrArg (fun r => Result.andThen r fun _ w' => Result.ok (Value.tuple #[]) w') hst
theorem impl_without_ones {α : Type} {R : α → List Value → Prop} {size : Nat} {ps : List α} {cs : List Value} (hs : 0 < size) (h : Reps R size ps cs) (h1 : ∀ p c, R p c → ∀ u ∈ c, u.oneCell' = true) : ∀ u ∈ cs, u.oneCell' = true := by
  intro u hu
  obtain ⟨q, hq, rfl⟩ := List.mem_iff_getElem.1 hu
  have hql : q / size < ps.length := by
    rw [Nat.div_lt_iff_lt_mul hs, ← h.1]
    exact hq
  have hc := h.2 (q / size) _ (List.getElem?_eq_getElem hql)
  refine h1 _ _ hc _ ?_
  rw [List.mem_iff_getElem?]
  refine ⟨q % size, ?_⟩
  rw [List.getElem?_take, if_pos (Nat.mod_lt _ hs), List.getElem?_drop, Nat.mul_comm, Nat.div_add_mod, List.getElem?_eq_getElem hq]
theorem impl_without_cut {α : Type} {R : α → List Value → Prop} {ps : List α} {cs : List Value} (h : Reps R 4 ps cs) (i : Nat) (hi : i < ps.length) : Reps R 4 (ps.eraseIdx i) (cs.take (i * 4) ++ cs.drop ((i + 1) * 4)) := by
  have hl := h.1
  refine ⟨by simp [List.length_eraseIdx, hi]; omega, fun j p hj => ?_⟩
  have hlt : j < (ps.eraseIdx i).length := (List.getElem?_eq_some_iff.1 hj).1
  rw [List.length_eraseIdx, if_pos hi] at hlt
  rw [List.getElem?_eraseIdx] at hj
  by_cases hji : j < i
  · rw [if_pos hji] at hj
    have := h.2 j p hj
    rw [List.drop_append_of_le_length (by simp; omega), List.take_append_of_le_length (by simp; omega), List.drop_take, List.take_take, show min 4 (i * 4 - j * 4) = 4 by omega]
    exact this
  · rw [if_neg hji] at hj
    have := h.2 (j + 1) p hj
    rw [List.drop_append, List.drop_of_length_le (by simp; omega), List.nil_append, List.length_take, List.drop_drop, show (i + 1) * 4 + (j * 4 - min (i * 4) cs.length) = (j + 1) * 4 by omega]
    exact this
theorem impl_without_app {ops : Array Oper} {P : Program} {o : Oper} {a : Act} {w : World} {K : Act → World → Prop} {Q : Exit → Act → World → Prop} {E : Prop}
    (hg : o.guard = none) (d x : Operand) (dT sT : TypeId) (hop : o.op = Op.call { callee := Callee.builtin Builtin.append, args := #[d, x], argTypes := #[dT, sT] })
    (v u : Value) (hd : a.eval d = v) (hx : a.eval x = u) {v' : Value} {w' : World} (hr : (Builtin.append_ #[dT, sT] o.type #[v, u]).run P w = .ok v' w') (hK : K (a.put o.dst v') w') :
    if Region.wanted o (yielded ops a.tmps) = true then Oper.wp P o a w K Q else E := by
  have hw : Region.wanted o (yielded ops a.tmps) = true := by simp [Region.wanted, hg]
  rw [if_pos hw]
  unfold Oper.wp
  simp [execOp, hop, resolve, invoke, builtin, hd, hx, hr, Result.andThen]
  exact hK
theorem impl_without_row {w : World} {g t : Nat} {cs : Array Value} (h : w.heap[g]? = some (.cells cs t (0, 0))) (cs' : Array Value) : (w.setRow g cs').heap[g]? = some (.cells cs' t (0, 0)) := by
  simp [World.setRow, Array.getElem?_modify, h]
theorem impl_without_set {t g : Nat} : ∀ (vs : List Value) (o : Nat) (W : World) (L : List Value), W.heap[g]? = some (.cells L.toArray t (0, 0)) → o + vs.length ≤ L.length → ∃ L' : List Value, (W.setCells g o vs).heap[g]? = some (.cells L'.toArray t (0, 0)) ∧ L'.length = L.length ∧ L'.take o = L.take o
  | [], o, W, L, h, _ => ⟨L, h, rfl, rfl⟩
  | v :: r, o, W, L, h, hl => by
    rw [World.setCells]
    simp only [List.length_cons] at hl
    have h1 := blk_set h o v
    rw [show L.toArray.setIfInBounds o v = (L.set o v).toArray by simp] at h1
    obtain ⟨L', h2, h3, h4⟩ := impl_without_set r (o + 1) _ (L.set o v) h1 (by simp; omega)
    refine ⟨L', h2, by simpa using h3, ?_⟩
    have := congrArg (List.take o) h4
    rw [List.take_take, List.take_take, show min o (o + 1) = o by omega, List.take_set_of_le (Nat.le_refl _)] at this
    exact this
theorem impl_without_below {b0 : Nat} {w0 : World} {B : Nat} (hB : b0 ≤ B) : ∀ (vs : List Value) (o : Nat) (W : World), Below b0 w0 W → Below b0 w0 (W.setCells B o vs)
  | [], _, _, h => h
  | v :: r, o, W, h => by
    rw [World.setCells]
    exact impl_without_below hB r (o + 1) _ (h.setCell hB v)
theorem impl_without_rowb {b0 : Nat} {w0 w : World} {g : Nat} (hg : b0 ≤ g) (h : Below b0 w0 w) (cs : Array Value) : Below b0 w0 (w.setRow g cs) :=
  ⟨h.os, h.tape, h.output, by simpa [World.setRow] using h.size, fun k hk => by
    have := h.block k hk
    rw [← this]
    simp only [World.setRow, Array.getElem?_modify]
    rw [if_neg (by omega)]⟩
set_option maxHeartbeats 8000000 in
set_option maxRecDepth 100000 in
theorem impl_without_del (g n cap i base : Nat) (xs : List S42) (w : World) (ho : Kd.R k42 42 w base (fun _ => True) (.slice (some ⟨g, 0, none⟩) n cap) xs) (hn : xs.length = n) (hi : i < n) (hlim : n < 1000000000000) :
    Calls Tryz.prog 59 #[.slice (some ⟨g, 0, none⟩) n cap, .int .i64 (i : Int), .int .i64 ((i : Int) + 1)] w fun e w' => ∃ v0, e = .returned v0 ∧ Kd.R k42 42 w' base (fun _ => True) v0 (xs.eraseIdx i) ∧ (∀ b0 w0, b0 ≤ base → Below b0 w0 w → Below b0 w0 w') := by
  obtain ⟨_, inner, hown, hreps⟩ := ho
  have hreps' : Reps (k42.M w base (fun k => True ∧ some k ≠ (Value.slice (some ⟨g, 0, none⟩) n cap).ownBlock)) 4 xs inner := hreps
  have hown' : w.ownsRow base 42 4 (.slice (some ⟨g, 0, none⟩) n cap) xs.length inner := hown
  clear hreps hown
  rcases hown'.2 with ⟨h, _⟩ | ⟨g', cap', cur, heq, hbg, hblk, hncap, hmax, hsz, htake⟩
  · cases h
  injection heq with e1 e2 e3
  injection e1 with e1
  injection e1 with e1
  subst e1 e3
  have hones := impl_without_ones (by omega) hreps' (fun p c hp u hu => k42.K_one (k42.K_of_M hp) u hu)
  have hil : inner.length = n * 4 := by have := hreps'.1; rw [hn] at this; exact this
  rw [hn] at hncap htake
  have mixed : Tryz.prog.follows Departure.mixedOrders = true := by kernel_rfl
  have LIM := Aside0.mk hlim
  have HI := Aside0.mk hi
  have HNC := Aside0.mk hncap
  have HBG := Aside0.mk hbg
  have HBLK := Aside0.mk hblk
  have HSZ := Aside0.mk hsz
  have HTK := Aside0.mk htake
  have HONES := Aside0.mk hones
  have HIL := Aside0.mk hil
  have HREPS := Aside0.mk hreps'
  have HN := Aside0.mk hn
  have HMAX := Aside0.mk hmax
  clear hblk hsz htake hones hil hreps' hown' hbg hmax hn e2
  have p1 : (0 : Int) ≤ (i : Int) := by omega
  have p2 : (i : Int) ≤ (i : Int) + 1 := by omega
  have p3 : (i : Int) + 1 ≤ (n : Int) := by omega
  have p4 : (n : Int) ≤ (cap : Int) := by omega
  have p5 : ((i : Int) + 1).toNat = i + 1 := by omega
  have p6 : (i : Int) ≤ (cap : Int) := by omega
  have p7 : (i : Int) + 1 ≤ (cap : Int) := by omega
  have p8 : ((i : Int) == (i : Int) + 1) = false := beq_eq_false_iff_ne.mpr (by omega)
  have p9 : ¬ ((i : Int) = (i : Int) + 1) := by omega
  have p10 : (0 : Int) ≤ (i : Int) + 1 := by omega
  obtain ⟨i0, hi0, hz0⟩ := Option.map_eq_some_iff.1 info42
  simp only [Prod.mk.injEq] at hz0
  obtain ⟨hz0, hz1, hz2⟩ := hz0
  obtain ⟨A, hA, hsrc⟩ : ∃ A : Addr, (if cap = i + 1 then some (⟨g, 0, none⟩ : Addr) else some ⟨g, (i + 1) * 4, none⟩) = some A ∧ ∀ n1 j u, (inner.drop ((i + 1) * 4))[j]? = some u → (w.drewN n1).cell? (A.add j) = some u := by
    by_cases hc : cap = i + 1
    · refine ⟨_, by rw [if_pos hc], fun n1 j u hu => ?_⟩
      rw [List.drop_of_length_le (by have := HIL.out; omega)] at hu
      simp at hu
    · refine ⟨_, by rw [if_neg hc], fun n1 j u hu => ?_⟩
      have hj := (List.getElem?_eq_some_iff.1 hu).1
      rw [List.length_drop] at hj
      rw [List.getElem?_drop, ← HTK.out, List.getElem?_take, if_pos (by have := HIL.out; omega)] at hu
      rw [Addr.add_lit]
      refine (blk_cell (w := w.drewN n1) HBLK.out _).trans ?_
      rw [← Array.getElem?_toList]
      exact hu
  have hrun : ∀ n1, (Builtin.append_ #[22, 22] 22 #[.slice (some ⟨g, 0, none⟩) i cap, .slice (some A) (n - (i + 1)) (cap - (i + 1))]).run Tryz.prog (w.drewN n1) = .ok (.slice (some ⟨g, 0, none⟩) (i + (n - (i + 1))) cap) ((w.drewN n1).setRow g (cur.toList.take (i * 4) ++ inner.drop ((i + 1) * 4) ++ cur.toList.drop (i * 4 + (inner.drop ((i + 1) * 4)).length)).toArray) := fun n1 => by
    have := run_append_room (P := Tryz.prog) (w.drewN n1) 22 22 42 i0 Tryz.underlying22 hi0 g i cap cur HBLK.out A (n - (i + 1)) (cap - (i + 1)) (inner.drop ((i + 1) * 4)) (by rw [hz1, List.length_drop]; have := HIL.out; omega) (hsrc n1) (fun u hu => HONES.out u (List.mem_of_mem_drop hu)) (by omega) (by rw [hz1, List.length_drop]; have := HIL.out; have := HSZ.out; omega)
    rw [hz1] at this
    exact this
  have HRUN := Aside0.mk hrun
  have HNC2 := Aside0.mk hncap
  have hz0' := hz0
  have hv : ∀ w : World, (zeroValue 42).run Tryz.prog w = .ok (.agg #[(.int .i64 0), (.int .i64 0), (.int .i64 0), (.int .i64 0)]) w := fun w => by
    simp [zeroValue, typeInfo, hi0, hz0']
  obtain ⟨L, hL⟩ : ∃ L : List Value, L = cur.toList.take (i * 4) ++ (inner.drop ((i + 1) * 4) ++ cur.toList.drop (i * 4 + (inner.length - (i + 1) * 4))) := ⟨_, rfl⟩
  have hLl : L.length = cap * 4 := by
    have := HIL.out
    have := HSZ.out
    rw [hL]
    simp only [List.length_append, List.length_take, List.length_drop, Array.length_toList]
    omega
  have hLt : L.take ((i + (n - (i + 1))) * 4) = inner.take (i * 4) ++ inner.drop ((i + 1) * 4) := by
    have h1 := HIL.out
    have h2 := HSZ.out
    have h3 := HTK.out
    have h4 : cur.toList.take (i * 4) = inner.take (i * 4) := by rw [← h3, List.take_take, show min (i * 4) (n * 4) = i * 4 by omega]
    have h5 : (inner.take (i * 4) ++ inner.drop ((i + 1) * 4)).length = (i + (n - (i + 1))) * 4 := by simp only [List.length_append, List.length_take, List.length_drop]; omega
    rw [hL, h4, ← List.append_assoc, ← h5, List.take_left]
  have hblk1 : ∀ n1, ((w.drewN n1).setRow g L.toArray).heap[g]? = some (.cells L.toArray 42 (0, 0)) := fun n1 => impl_without_row (w := w.drewN n1) HBLK.out _
  have hzl : (Builtin.zeroCells (Value.agg #[(.int .i64 0), (.int .i64 0), (.int .i64 0), (.int .i64 0)]).cells 1).toList = [.int .i64 0, .int .i64 0, .int .i64 0, .int .i64 0] := by first | kernel_rfl | decide | (simp [Builtin.zeroCells, Value.cells]; done)
  have hcl : ∀ n1, (Builtin.clear_ #[22] 0 #[.slice (some ⟨g, (i + (n - (i + 1))) * 4, none⟩) (n - (i + (n - (i + 1)))) (cap - (i + (n - (i + 1))))]).run Tryz.prog ((w.drewN n1).setRow g L.toArray) = .ok (.tuple #[]) (((w.drewN n1).setRow g L.toArray).setCells g ((i + (n - (i + 1))) * 4) [.int .i64 0, .int .i64 0, .int .i64 0, .int .i64 0]) := fun n1 => by
    rw [show n - (i + (n - (i + 1))) = 0 + 1 by omega]
    have := impl_without_zero (P := Tryz.prog) ((w.drewN n1).setRow g L.toArray) 22 42 0 _ 0 Tryz.underlying22 hv (by intro u hu; rw [hzl] at hu; simp at hu; rw [hu]; rfl) g ((i + (n - (i + 1))) * 4) (cap - (i + (n - (i + 1)))) (fun j hj => by
      rw [hzl] at hj
      simp at hj
      rw [blk_cell (hblk1 n1)]
      simp
      omega) (fun j hj => blk_frozen (hblk1 n1) _)
    rw [hzl] at this
    exact this
  have HL := Aside0.mk hL
  have HLL := Aside0.mk hLl
  have HLT := Aside0.mk hLt
  have HCL := Aside0.mk hcl
  have HB1 := Aside0.mk hblk1
  clear hi hncap hlim hrun hsrc hz0 hz2 hz0' hL hLl hLt hcl hblk1 hv hzl
  go_enter Tryz.func59, Tryz.ntmps59
  go_wp2
  go_region_law_o (refine impl_without_app rfl _ _ 22 22 rfl _ _ (by simp [Act.eval, Act.put]) (by simp [Act.eval, Act.put]) (HRUN.out _) ?_)
  go_wp2_with (rw [← HL.out, HCL.out])
  go_ret
  obtain ⟨L', g1, g2, g3⟩ := impl_without_set (t := 42) (g := g) [.int .i64 0, .int .i64 0, .int .i64 0, .int .i64 0] ((i + (n - (i + 1))) * 4) _ L (HB1.out 1) (by have := HLL.out; have := HI.out; have := HNC.out; simp; omega)
  have hcut := impl_without_cut HREPS.out i (by rw [HN.out]; exact HI.out)
  have hlen : (xs.eraseIdx i).length = i + (n - (i + 1)) := by have := HI.out; have := HN.out; rw [List.length_eraseIdx, if_pos (by omega)]; omega
  refine ⟨_, rfl, ⟨fun _ _ => trivial, inner.take (i * 4) ++ inner.drop ((i + 1) * 4), ?_, ?_⟩, fun b0 w0 hb h0 => impl_without_below (Nat.le_trans hb HBG.out) _ _ _ (impl_without_rowb (Nat.le_trans hb HBG.out) (pw_below_drewN h0 1) _)⟩
  · refine ⟨hcut.1, .inr ⟨g, cap, L'.toArray, by rw [hlen]; rfl, HBG.out, g1, by rw [hlen]; have := HI.out; have := HNC.out; omega, HMAX.out, by show L'.length = _; rw [g2]; exact HLL.out, ?_⟩⟩
    show L'.take ((xs.eraseIdx i).length * 4) = _
    rw [hlen, g3]
    exact HLT.out
  · exact hcut.imp_ (fun p c hp => by
      obtain rfl := k42_openM hp
      exact k42_mkM _ _ _ p)
theorem impl_without_nonnil {w : World} {base : Nat} {ok : Nat → Prop} {v : Value} {l : List S42} (h : Kd.R k42 42 w base ok v l) (hl : 0 < l.length) : ∃ g c, v = .slice (some ⟨g, 0, none⟩) l.length c := by
  obtain ⟨_, inner, ho, _⟩ := h
  obtain ⟨g, cap, rfl, _, _⟩ := ho.form hl
  exact ⟨g, cap, rfl⟩
def impl_without.f (l0 : List S42) (a1 : Int) : Option (List S42) := (impl_Clue.f l0).bind fun t => if 0 ≤ a1 ∧ a1 < (t.length : Int) ∧ t.length < 1000000000000 then some (t.eraseIdx a1.toNat) else none
set_option maxHeartbeats 8000000 in
set_option maxRecDepth 100000 in
theorem impl_without.calls (A0 : Option Addr) (c0 : Nat) (l0 : List S42) (a1 : Int) (r : List S42) (w : World) (hr0 : Kd.C k42 w A0 l0.length l0) (hc0 : l0.length ≤ c0) (h : impl_without.f l0 a1 = some r) :
  Calls Tryz.prog 38 #[.slice A0 l0.length c0, .int .i64 a1] w fun e w' => ∃ v0_ : Value, e = .returned (v0_) ∧ Kd.R k42 42 w' w.heap.size (fun _ => True) v0_ r ∧ Below w.heap.size w w' := by
 have HR0 := Aside0.mk hr0
 have HC0 := Aside0.mk hc0
 clear hr0 hc0
 have HB := Aside0.mk (Below.refl w.heap.size w)
 replace h := Option.bind_eq_some_iff.mp h
 obtain ⟨t, b1, h⟩ := h
 have B1 := Aside0.mk b1
 clear b1
 by_cases hc : 0 ≤ a1 ∧ a1 < (t.length : Int) ∧ t.length < 1000000000000
 ·rw [if_pos hc] at h
  obtain rfl := Option.some.inj h
  clear h
  obtain ⟨i, rfl⟩ : ∃ i : Nat, a1 = (i : Int) := ⟨a1.toNat, by omega⟩
  have HI := Aside0.mk (show i < t.length by omega)
  have HLM := Aside0.mk hc.2.2
  have ew : IntKind.i64.wrap ((i : Int) + 1) = (i : Int) + 1 := by have := hc.2.2; have e64 : IntKind.i64.bits = 64 := rfl; simp [IntKind.wrap, e64, IntKind.signed]; omega
  have ew2 : wrap64 ((i : Int) + 1) = (i : Int) + 1 := by have := hc.2.2; unfold wrap64; omega
  clear hc
  go_enter Tryz.func38, Tryz.ntmps38
  go_wp2_with (first | (go_at_call 60; refine (impl_Clue.calls A0 c0 l0 t _ HR0.out HC0.out B1.out).mono ?_; rintro e w' ⟨v1, rfl, ho1, hb⟩; obtain ⟨g1, c1, rfl⟩ := impl_without_nonnil ho1 (by have := HI.out; omega); have HO1 := Aside0.mk ho1; have HB1 := Aside0.mk (below_step HB.out hb); clear ho1 HB hb; have HB := HB1; clear HB1) | (go_at_call 59; refine (impl_without_del g1 t.length c1 i w.heap.size t _ HO1.out rfl HI.out HLM.out).mono ?_; rintro e w' ⟨v2, rfl, ho2, hb2⟩; have HO2 := Aside0.mk ho2; have HB1 := Aside0.mk (hb2 _ _ (Nat.le_refl _) HB.out); clear ho2 HB hb2; have HB := HB1; clear HB1))
  go_ret
  exact ⟨_, rfl, HO2.out, HB.out⟩
 rw [if_neg hc] at h
 exact absurd h (by simp)

end Go.Proofs.YtfaakdokcldnkaaGreatDoor.PFnRowsGuessedOfAll
