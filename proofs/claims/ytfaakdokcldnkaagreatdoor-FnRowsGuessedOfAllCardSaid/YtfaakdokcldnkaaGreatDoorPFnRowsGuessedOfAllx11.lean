-- Laid by xprint, a program of this session that runs over the kit's print.
import Derived.Test.YtfaakdokcldnkaaGreatDoorPFnRowsGuessedOfAllx10
namespace Go.Proofs.YtfaakdokcldnkaaGreatDoor.PFnRowsGuessedOfAll
open Go.RowKit Go.Proofs.YtfaakdokcldnkaaGreatDoorW.PrintWords Go.Proofs.YtfaakdokcldnkaaGreatDoorW.PrintLast Go.Proofs.YtfaakdokcldnkaaGreatDoorW.PrintMore Go.Proofs.YtfaakdokcldnkaaGreatDoor.Sq
attribute [local go_sem] max2_int min2_int max_two min_two max_three min_three max_four min_four   -- for this text's walks alone
set_option linter.unusedVariables false
set_option linter.unusedSimpArgs false

/-! ### spec_LeftByClues: function 17 -/
def spec_LeftByClues.l0 : Nat → List Int → Int → Int → List (S42) → Option (List Int × Bool)
  | 0, _, _, _, _ => none
  | k + 1, x4, x5, x319000, x319001 => if x5 ≤ (x319001.length : Int) then (if 0 ≤ x5 then ((spec_pzAll.f k x319000 (x319001.take (x5 : Int).toNat)).bind fun t324 => (if x4.length < 17592186044416 then (spec_LeftByClues.l0 k (x4 ++ [(t324.length : Int)]) (wrap64 (x5 + 1)) x319000 x319001) else (none))) else (none)) else (some (x4, true))
def spec_LeftByClues.f (k : Nat) (a0_0 : Int) (l0_1 : List (S42)) : Option (List Int × Bool) := (spec_pzGood.f k a0_0 l0_1).bind fun t319 => (if t319 = true then (spec_LeftByClues.l0 k ([] : List Int) 0 a0_0 l0_1) else (some (([] : List Int), false)))
theorem spec_LeftByClues.mono_l : ∀ k, (∀ y0 y1 y2 y3, LeO (spec_LeftByClues.l0 k y0 y1 y2 y3) (spec_LeftByClues.l0 (k + 1) y0 y1 y2 y3))
  | 0 => fun _ _ _ _ r h => by simp [spec_LeftByClues.l0] at h
  | k + 1 => by
    have ih0 := spec_LeftByClues.mono_l k
    · intro y0 y1 y2 y3
      unfold spec_LeftByClues.l0
      repeat' first
      | (with_reducible exact ih0 _ _ _ _)
      | (with_reducible exact spec_pzAll.mono _ _ _)
      | (with_reducible exact spec_pzGood.mono _ _ _)
      | (with_reducible exact LeO.refl _)
      | (with_reducible exact LeO.none _)
      | (with_reducible refine LeO.ite ?_ ?_)
      | (with_reducible refine LeO.bind ?_ (fun _ => ?_))
      | exact ih0 _ _ _ _
      | exact spec_pzAll.mono _ _ _
      | exact spec_pzGood.mono _ _ _
      | exact LeO.none _
      | refine LeO.ite ?_ ?_
      | refine LeO.bind ?_ (fun _ => ?_)
theorem spec_LeftByClues.mono : ∀ a0 a1 k, LeO (spec_LeftByClues.f k a0 a1) (spec_LeftByClues.f (k + 1) a0 a1) := by
  intro a0 a1 k
  have ih0 := spec_LeftByClues.mono_l k
  unfold spec_LeftByClues.f
  repeat' first
      | (with_reducible exact ih0 _ _ _ _)
      | (with_reducible exact spec_pzAll.mono _ _ _)
      | (with_reducible exact spec_pzGood.mono _ _ _)
      | (with_reducible exact LeO.refl _)
      | (with_reducible exact LeO.none _)
      | (with_reducible refine LeO.ite ?_ ?_)
      | (with_reducible refine LeO.bind ?_ (fun _ => ?_))
      | exact ih0 _ _ _ _
      | exact spec_pzAll.mono _ _ _
      | exact spec_pzGood.mono _ _ _
      | exact LeO.none _
      | refine LeO.ite ?_ ?_
      | refine LeO.bind ?_ (fun _ => ?_)
def spec_LeftByClues.T7 : Bool × List (List Nat × List Nat) := (true, [([], []), ([], []), ([1], [1]), ([], []), ([3], [3]), ([], []), ([4, 5], [4, 5]), ([2, 6], [2, 6]), ([7], [7]), ([8], [8]), ([0, 9, 7], [0, 9]), ([10, 10, 0, 1, 2, 3, 4, 5, 6, 7, 8, 9, 10], [0, 10])])
def spec_LeftByClues.B7 : List Nat := [0, 0, 2, 0, 8, 0, 56, 126, 254, 510, 1023, 2047]
theorem spec_LeftByClues.tab7 : rtab .any (opsOf Tryz.f17 7) = spec_LeftByClues.T7 := by kernel_rfl
theorem spec_LeftByClues.bits7 : waitsOk spec_LeftByClues.T7.2 spec_LeftByClues.B7 = true := by kernel_rfl
set_option maxHeartbeats 8000000 in
set_option maxRecDepth 100000 in
theorem spec_LeftByClues.calls (k : Nat) (a0_0 : Int) (A0_1 : Option Addr) (c0_1 : Nat) (l0_1 : List (S42)) (r1 : List Int) (r2 : Bool) (w : World) (hr0_1 : Kd.C k42 w A0_1 l0_1.length l0_1) (hc0_1 : l0_1.length ≤ c0_1) (h : spec_LeftByClues.f k a0_0 l0_1 = some (r1, r2)) :
  Calls Tryz.prog 17 #[.agg #[.int .i64 a0_0, .slice A0_1 l0_1.length c0_1]] w fun e w' => ∃ v0_ : Value, e = .returned (.tuple #[v0_, .bool r2]) ∧ Kd.R (Kd.int .i64) 3 w' w.heap.size (fun _ => True) v0_ r1 ∧ Below w.heap.size w w' := by
 have hu24 := Tryz.underlying24
 have HR0_1 := Aside0.mk hr0_1
 have HC0_1 := Aside0.mk hc0_1
 clear hr0_1 hc0_1
 have HB := Aside0.mk (Below.refl w.heap.size w)
 unfold spec_LeftByClues.f at h
 have H := h
 clear h
 obtain ⟨t319, A2, H⟩ := ob H
 (try dsimp only at H)
 go_enter Tryz.func17, Tryz.ntmps17
 go_wp2_with (((with_reducible refine gd 1 ?_); refine bx 1 24 #[.int .i64 a0_0, .slice A0_1 l0_1.length c0_1] ?_; intro gb318 hg w4 hbox hb; have BK318 := hbox; have GW318 := gs hg; have GE318 := gs hg; replace HB := bs hb; clear hb hbox hg; obtain ⟨hcz5_0, hcz5_1, hfz5_0, hfz5_1⟩ := z2 BK318; refine halt ?_))
 by_cases c3 : t319 = true
 ·subst c3
  rw [if_pos rfl] at H
  have H' := Aside0.mk H
  clear H
  refine Aside0.mk ?_
  try go_wp2_with (((with_reducible refine gc 35 ?_); refine gl (some 7) Tryz.func35 #[.agg #[.int .i64 a0_0, .slice A0_1 l0_1.length c0_1]] ?_; (with_reducible refine (spec_pzGood.calls k a0_0 _ _ l0_1 true _ ?_ ?_ A2.out).mono ?_); exact cb HR0_1; exact HC0_1.out; rintro e w6 ⟨rfl, hb⟩; refine ⟨_, rfl, ?_⟩; replace BK318 := nk BK318 hb; replace HB := bs hb; (try clear hb)))
  go_loopg [4, 5] k (fun kq v4 v5 w' => ∃ (x4_1 : List Int) (x5_1 : Int), v5 = .int .i64 x5_1 ∧ Aside0 (spec_LeftByClues.l0 kq x4_1 x5_1 a0_0 l0_1 = some (r1, r2)) ∧ Aside0 (kq ≤ k) ∧ Aside0 (Kd.R (Kd.int .i64) 3 w' w.heap.size (fun _ => True) v4 x4_1) ∧ Aside0 (w'.heap[gb318]? = some (.cells #[.int .i64 a0_0, (.slice A0_1 l0_1.length c0_1)] 24 (0, 0))) ∧ Aside0 (Below w.heap.size w w'))
  case atStart => exact ⟨(([] : List Int)), (0), (rs), H', ⟨Nat.le_refl _⟩, ⟨by first | exact Kd.R_nil _ _ _ _ _ | exact Kd.N_nil _ _ _ _ _ | exact Kd.V_nil _ _ _ _ _ | exact Kd.Q_nil _ _ _ _ _ | exact Kd.S_nil _ _ _ _ _⟩, ⟨pk BK318⟩, ⟨bw⟩⟩
  case round =>
   clear H'
   try clear c1
   try clear p2
   try clear c3
   try clear hcz5_0
   try clear hcz5_1
   try clear hfz5_0
   try clear hfz5_1
   obtain ⟨x4_1, x5_1, rfl, HA, HK1, HO_4, BK318, HB⟩ := hrel
   cases gk with
   | zero => exact absurd HA.out (by simp [spec_LeftByClues.l0])
   | succ k1 =>
    have H := HA.out
    clear HA
    simp only [spec_LeftByClues.l0] at H
    by_cases c7 : x5_1 ≤ (l0_1.length : Int)
    ·rw [if_pos c7] at H
     have c7b0 := decide_eq_true c7
     clear c7
     obtain ⟨c8, H⟩ := oi H
     have c8b0 := eq_true c8
     have c8b1 := decide_eq_true c8
     clear c8
     have c9b0 := eq_true (of_decide_eq_true asm : x5_1 ≤ (l0_1.length : Int))
     obtain ⟨y320, hy320⟩ : ∃ y_ : List (S42), y_ = (l0_1.take (x5_1 : Int).toNat) := ⟨_, rfl⟩
     replace H : ((spec_pzAll.f k1 a0_0 y320).bind fun t324 => (if x4_1.length < 17592186044416 then (spec_LeftByClues.l0 k1 (x4_1 ++ [(t324.length : Int)]) (wrap64 (x5_1 + 1)) a0_0 l0_1) else (none))) = some (r1, r2) := by first | (rw [hy320]; with_reducible exact H) | (have H2_ := (Option.bind_some _ _).symm.trans H; rw [hy320]; with_reducible exact H2_) | (have H2_ := (Option.bind_some _ _).symm.trans H; with_reducible exact H2_) | with_reducible exact H | (rw [hy320]; exact H) | exact H
     have Ny320 := Aside0.mk hy320
     clear hy320
     obtain ⟨t324, A10, H⟩ := ob H
     (try dsimp only at H)
     obtain ⟨c11, H⟩ := oi H
     have LMc11 := Aside0.mk c11
     clear c11
     obtain ⟨y327, hy327⟩ : ∃ y_ : List Int, y_ = (x4_1 ++ [(t324.length : Int)]) := ⟨_, rfl⟩
     replace H : (spec_LeftByClues.l0 k1 y327 (wrap64 (x5_1 + 1)) a0_0 l0_1) = some (r1, r2) := by first | (rw [hy327]; with_reducible exact H) | (have H2_ := (Option.bind_some _ _).symm.trans H; rw [hy327]; with_reducible exact H2_) | (have H2_ := (Option.bind_some _ _).symm.trans H; with_reducible exact H2_) | with_reducible exact H | (rw [hy327]; exact H) | exact H
     have Ny327 := Aside0.mk hy327
     clear hy327
     have H' := Aside0.mk H
     clear H
     have hcz12_0 : wr.cell? ⟨gb318, 0, none⟩ = some (.int .i64 a0_0) := ec BK318
     have hcz12_1 : wr.cell? ⟨gb318, 1, none⟩ = some (.slice A0_1 l0_1.length c0_1) := ec BK318
     have hfz12_0 := blk_frozen BK318.out 0
     have hfz12_1 := blk_frozen BK318.out 1
     try go_wp2
     replace HO_4 := Aside0.mk (Kd.R_drew HO_4.out)
     replace BK318 := Aside0.mk (blk_drew BK318.out)
     replace HB := Aside0.mk (below_drew1 HB.out)
     have q14 : (x5_1 : Int) ≤ ((l0_1.length : Int) : Int) := of_decide_eq_true asm
     obtain ⟨i014, hi014, _, hsz14, _⟩ := info_parts info42
     have hroom14 : l0_1.length ≤ c0_1 := HC0_1.out
     have hC14 : Kd.C k42 _ A0_1 l0_1.length l0_1 := HR0_1.out
     have hcut14 := cut_to (P := Tryz.prog) 22 42 .i64 Tryz.underlying22 hi014 A0_1 l0_1.length c0_1 x5_1 (of_decide_eq_true asm) q14 hroom14
     have hr14 := Kd.C_take (m := (x5_1 : Int).toNat) hC14 (by omega)
     have hy14 : y320.length = (x5_1 : Int).toNat := (by rw [Ny320.out, List.length_take]; omega)
     rw [← Ny320.out] at hr14
     rw [← hy14] at hcut14
     have HR323 := Aside0.mk hr14
     have HC323 := Aside0.mk (show y320.length ≤ c0_1 from by omega)
     clear hr14 hC14 hroom14 hi014 hsz14
     have KY14 := Aside0.mk hy14
     clear hy14
     replace q14 := eq_true q14
     refine start_ (n := 12) (S := fun w' => w'.cell? ⟨gb318, 0, none⟩ = some (.int .i64 a0_0) ∧ w'.cell? ⟨gb318, 1, none⟩ = some (.slice A0_1 l0_1.length c0_1)) (ds := []) (tb 12 0) (by kernel_rfl) rfl rfl ⟨ec BK318, ec BK318⟩ (fun hHeld => ?_); refine with_tabW spec_LeftByClues.tab7 spec_LeftByClues.bits7 (fun HT_ HW_ => ?_)
     generalize wr.drew = w13 at HO_4 BK318 HB HR323 hHeld ⊢
     refine pu 0 (some 16) (tb 12 1) ?_
     refine pu 1 (some 17) (tb 12 3) ?_
     refine pu 3 (some 19) (tb 12 11) ?_
     refine pu 5 (some 21) (tb 12 43) ?_
     refine tk 2 (some 18) (tb 12 47) hHeld ?_
     refine tk 4 (some 20) (tb 12 63) hHeld ?_
     refine pu 6 (some 22) (tb 12 127) ?_
     refine one_ (i := 7) (N := some 23) (tb 12 255) rfl rfl (one_of HT_.out (by kernel_rfl)) (by decide) (fun K hK => ?_)
     refine go1 Tryz.func36 #[.int .i64 a0_0, .slice A0_1 y320.length c0_1] ?_
     with_reducible refine (spec_pzAll.calls k1 a0_0 _ _ y320 t324 _ ?side1 ?side2 A10.out).mono ?_
     (case side1 => exact cb HR323)
     (case side2 => exact HC323.out)
     rintro e w15 ⟨v325, rfl, ho0, hb⟩
     refine ⟨_, rfl, ?_⟩
     replace HO_4 := rl HO_4 hb
     have HO326 := Aside0.mk (Kd.R_lower ho0 (below_size bw))
     replace BK318 := nk BK318 hb
     replace HB := bs hb
     (try clear hb)
     (try clear ho0)
     obtain ⟨Ao16, co16, eo16⟩ := Kd.R_slice HO326.out
     (first | subst eo16 | (injection eo16 with f1_ f2_ f3_; have f4_ := f1_.symm; have f5_ := f3_.symm; clear f1_ f2_ f3_; subst f4_; subst f5_))
     refine hK.out _ _ ⟨ec BK318, ec BK318⟩ (fun hHeld => ?_)
     clear hK K
     refine nm (some 23) ?_
     refine pu 8 (some 24) (tb 12 511) ?_
     refine one_ (i := 9) (N := some 25) (tb 12 1023) rfl rfl (one_of HT_.out (by kernel_rfl)) (by decide) (fun K hK => ?_)
     refine value_ (w1 := ?_) (v := ?_) (by rfl) rfl ?_ ?_
     rotate_left 2
     ·go_simp
      constructor
      ·rfl
      rfl
     refine hK.out _ _ ⟨(blk_cell (blk_alloc BK318.out _) 0).trans rfl, (blk_cell (blk_alloc BK318.out _) 1).trans rfl⟩ (fun hHeld => ?_)
     clear hK K
     refine nm (some 25) ?_
     refine one_ (i := 10) (N := some 26) (tb 12 2047) rfl rfl (one_of HT_.out (by kernel_rfl)) (by decide) (fun K hK => ?_)
     refine Kd.R_append_step (Kd.int .i64) (w0 := w) w.heap.size (by rfl) (.tmp 16) (.tmp 25) 34 3 (.int .i64 0) 8 rfl Tryz.underlying34 info3 rfl (by decide) (by omega) u4 x4_1 (t324.length : Int) [.int .i64 (t324.length : Int)] (fun _ => True) (fun _ => False) rfl rfl ?aP (fun _ hk => hk.elim) ?aF ?aO ?aB ?aS ?aL ?_
     (case aP => exact rfl)
     (case aB => exact bw)
     (case aF => exact (fun _ _ => trivial))
     (case aO => exact (pr HO_4))
     (case aS => exact (below_size bw))
     (case aL => have := LMc11.out; omega)
     intro v328 w17 ho hb hg hat
     rw [← Ny327.out] at ho
     have n0_ := Aside0.mk (blk_grown (pk BK318) hg (Kd.R_ne HO_4.out BK318.out (by decide)))
     have n1_ := Aside0.mk (Kd.R_over' (pr HO326) (Kd.R_typed (pr HO_4)) (by decide) hg)
     have n2_ := Aside0.mk (hb)
     have n3_ := Aside0.mk (ho)
     clear BK318
     clear HO326
     clear HB
     clear HO_4
     have BK318 := n0_
     have HO326 := n1_
     have HB := n2_
     have HO329 := n3_
     clear n0_ n1_ n2_ n3_
     clear ho hb hg hat
     refine hK.out _ _ ⟨ec BK318, ec BK318⟩ (fun hHeld => ?_)
     clear hK K
     refine nm (some 26) ?_
     refine pu 11 (some 4) (tb 12 4095) ?_
     refine done_ (done_of HT_.out (by kernel_rfl)) ?_
     try go_wp2
     go_roundg k1
     case measure => have := HK1.out; omega
     case rel => exact ⟨(y327), (wrap64 (x5_1 + 1)), (rs), H', ⟨by have := HK1.out; omega⟩, ⟨pr HO329⟩, ⟨pk BK318⟩, ⟨bw⟩⟩
    rw [if_neg c7] at H
    have c7b0 := decide_eq_false c7
    clear c7
    simp only [Option.some.injEq, Prod.mk.injEq] at H
    obtain ⟨rfl, rfl⟩ := H
    have hcz18_0 : wr.cell? ⟨gb318, 0, none⟩ = some (.int .i64 a0_0) := ec BK318
    have hcz18_1 : wr.cell? ⟨gb318, 1, none⟩ = some (.slice A0_1 l0_1.length c0_1) := ec BK318
    have hfz18_0 := blk_frozen BK318.out 0
    have hfz18_1 := blk_frozen BK318.out 1
    go_wp2
    go_ret2
    exact ⟨_, rs, pr HO_4, bw⟩
 replace c3 := Bool.eq_false_iff.mpr c3
 subst c3
 rw [if_neg (show ¬ (false = true) by decide)] at H
 simp only [Option.some.injEq, Prod.mk.injEq] at H
 obtain ⟨rfl, rfl⟩ := H
 refine Aside0.mk ?_
 try go_wp2_with (((with_reducible refine gc 35 ?_); refine gl (some 7) Tryz.func35 #[.agg #[.int .i64 a0_0, .slice A0_1 l0_1.length c0_1]] ?_; (with_reducible refine (spec_pzGood.calls k a0_0 _ _ l0_1 false _ ?_ ?_ A2.out).mono ?_); exact cb HR0_1; exact HC0_1.out; rintro e w21 ⟨rfl, hb⟩; refine ⟨_, rfl, ?_⟩; replace HB := bs hb; (try clear hb)))
 go_ret2
 exact ⟨_, rs, by first | exact Kd.R_nil _ _ _ _ _ | exact Kd.N_nil _ _ _ _ _ | exact Kd.V_nil _ _ _ _ _ | exact Kd.Q_nil _ _ _ _ _ | exact Kd.S_nil _ _ _ _ _, bw⟩

end Go.Proofs.YtfaakdokcldnkaaGreatDoor.PFnRowsGuessedOfAll
