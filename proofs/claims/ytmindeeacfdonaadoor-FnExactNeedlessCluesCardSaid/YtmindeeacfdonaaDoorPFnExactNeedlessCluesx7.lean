-- Laid by xprint, a program of this session that runs over the kit's print.
import Derived.Test.YtmindeeacfdonaaDoorPFnExactNeedlessCluesx0
import Derived.Test.YtmindeeacfdonaaDoorPFnExactNeedlessCluesx4
import Derived.Test.YtmindeeacfdonaaDoorPFnExactNeedlessCluesx6
namespace Go.Proofs.YtmindeeacfdonaaDoor.PFnExactNeedlessClues
open Go.RowKit Go.Proofs.YtmindeeacfdonaaDoorW.PrintWords Go.Proofs.YtmindeeacfdonaaDoorW.PrintLast Go.Proofs.YtmindeeacfdonaaDoorW.PrintMore Go.Proofs.YtmindeeacfdonaaDoor.Sq
attribute [local go_sem] max2_int min2_int max_two min_two max_three min_three max_four min_four   -- for this text's walks alone
set_option linter.unusedVariables false
set_option linter.unusedSimpArgs false

/-! ### spec_NeedlessClues: function 49 -/
def spec_NeedlessClues.l0 : Nat → List Int → Int → Int → Int → Int → List (S33) → Option (List Int × Bool)
  | 0, _, _, _, _, _, _ => none
  | k + 1, x4, x5, x18, x19, x213000, x213001 => if x19 < x18 then ((spec_pzWithout.f x213001 x19).bind fun t217 => ((spec_pzAll.f k x213000 t217).bind fun t220 => (if (t220.length : Int) = x5 then (if x4.length < 17592186044416 then (spec_NeedlessClues.l0 k (x4 ++ [x19]) x5 x18 (wrap64 (x19 + 1)) x213000 x213001) else (none)) else (spec_NeedlessClues.l0 k x4 x5 x18 (wrap64 (x19 + 1)) x213000 x213001)))) else (some (x4, true))
def spec_NeedlessClues.f (k : Nat) (a0_0 : Int) (l0_1 : List (S33)) : Option (List Int × Bool) := (spec_pzGood.f k a0_0 l0_1).bind fun t213 => (if t213 = true then ((spec_pzAll.f k a0_0 l0_1).bind fun t214 => (spec_NeedlessClues.l0 k ([] : List Int) (t214.length : Int) (l0_1.length : Int) 0 a0_0 l0_1)) else (some (([] : List Int), false)))
theorem spec_NeedlessClues.mono_l : ∀ k, (∀ y0 y1 y2 y3 y4 y5, LeO (spec_NeedlessClues.l0 k y0 y1 y2 y3 y4 y5) (spec_NeedlessClues.l0 (k + 1) y0 y1 y2 y3 y4 y5))
  | 0 => fun _ _ _ _ _ _ r h => by simp [spec_NeedlessClues.l0] at h
  | k + 1 => by
    have ih0 := spec_NeedlessClues.mono_l k
    · intro y0 y1 y2 y3 y4 y5
      unfold spec_NeedlessClues.l0
      repeat' first
      | (with_reducible exact ih0 _ _ _ _ _ _)
      | (with_reducible exact spec_pzAll.mono _ _ _)
      | (with_reducible exact spec_pzGood.mono _ _ _)
      | (with_reducible exact LeO.refl _)
      | (with_reducible exact LeO.none _)
      | (with_reducible refine LeO.ite ?_ ?_)
      | (with_reducible refine LeO.bind ?_ (fun _ => ?_))
      | exact ih0 _ _ _ _ _ _
      | exact spec_pzAll.mono _ _ _
      | exact spec_pzGood.mono _ _ _
      | exact LeO.none _
      | refine LeO.ite ?_ ?_
      | refine LeO.bind ?_ (fun _ => ?_)
theorem spec_NeedlessClues.mono : ∀ a0 a1 k, LeO (spec_NeedlessClues.f k a0 a1) (spec_NeedlessClues.f (k + 1) a0 a1) := by
  intro a0 a1 k
  have ih0 := spec_NeedlessClues.mono_l k
  unfold spec_NeedlessClues.f
  repeat' first
      | (with_reducible exact ih0 _ _ _ _ _ _)
      | (with_reducible exact spec_pzAll.mono _ _ _)
      | (with_reducible exact spec_pzGood.mono _ _ _)
      | (with_reducible exact LeO.refl _)
      | (with_reducible exact LeO.none _)
      | (with_reducible refine LeO.ite ?_ ?_)
      | (with_reducible refine LeO.bind ?_ (fun _ => ?_))
      | exact ih0 _ _ _ _ _ _
      | exact spec_pzAll.mono _ _ _
      | exact spec_pzGood.mono _ _ _
      | exact LeO.none _
      | refine LeO.ite ?_ ?_
      | refine LeO.bind ?_ (fun _ => ?_)
def spec_NeedlessClues.T8 : Bool × List (List Nat × List Nat) := (true, [([], []), ([0], [0]), ([], []), ([2], [2]), ([], []), ([3, 4], [3, 4]), ([1, 5, 5], [1, 5]), ([6], [6]), ([], []), ([7, 8], [7, 8])])
def spec_NeedlessClues.B8 : List Nat := [0, 1, 0, 4, 0, 28, 63, 127, 0, 511]
theorem spec_NeedlessClues.tab8 : rtab .any (opsOf Tryd.f49 8) = spec_NeedlessClues.T8 := by kernel_rfl
theorem spec_NeedlessClues.bits8 : waitsOk spec_NeedlessClues.T8.2 spec_NeedlessClues.B8 = true := by kernel_rfl
set_option maxHeartbeats 8000000 in
set_option maxRecDepth 100000 in
theorem spec_NeedlessClues.calls (k : Nat) (a0_0 : Int) (A0_1 : Option Addr) (c0_1 : Nat) (l0_1 : List (S33)) (r1 : List Int) (r2 : Bool) (w : World) (hr0_1 : Kd.C k33 w A0_1 l0_1.length l0_1) (hc0_1 : l0_1.length ≤ c0_1) (h : spec_NeedlessClues.f k a0_0 l0_1 = some (r1, r2)) :
  Calls Tryd.prog 49 #[.agg #[.int .i64 a0_0, .slice A0_1 l0_1.length c0_1]] w fun e w' => ∃ v0_ : Value, e = .returned (.tuple #[v0_, .bool r2]) ∧ Kd.R (Kd.int .i64) 3 w' w.heap.size (fun _ => True) v0_ r1 ∧ Below w.heap.size w w' := by
 have hu38 := Tryd.underlying38
 have HR0_1 := Aside0.mk hr0_1
 have HC0_1 := Aside0.mk hc0_1
 clear hr0_1 hc0_1
 have HB := Aside0.mk (Below.refl w.heap.size w)
 unfold spec_NeedlessClues.f at h
 have H := h
 clear h
 replace H := Option.bind_eq_some_iff.mp H
 obtain ⟨t213, A20, H⟩ := H
 (try dsimp only at H)
 have A2 := Aside0.mk A20
 clear A20
 by_cases c3 : t213 = true
 ·subst c3
  rw [if_pos rfl] at H
  replace H := Option.bind_eq_some_iff.mp H
  obtain ⟨t214, A40, H⟩ := H
  (try dsimp only at H)
  have A4 := Aside0.mk A40
  clear A40
  have H' := Aside0.mk H
  clear H
  go_enter Tryd.func49, Tryd.ntmps49
  go_wp2_with (first | ((with_reducible refine gate_dst (N := 1) rfl ?_); refine bx 1 38 #[.int .i64 a0_0, .slice A0_1 l0_1.length c0_1] ?_; intro gb212 hg w5 hbox hb; have BK212 := hbox; have GW212 := gs hg; have GE212 := gs hg; replace HB := bs hb; clear hb hbox hg; have hcz6_0 := bc BK212 0 (.int .i64 a0_0); have hcz6_1 := bc BK212 1 (.slice A0_1 l0_1.length c0_1); have hfz6_0 := blk_frozen BK212.out 0; have hfz6_1 := blk_frozen BK212.out 1) | ((with_reducible refine gate_callee (f := 72) rfl ?_); refine gl (some 8) Tryd.func72 #[.agg #[.int .i64 a0_0, .slice A0_1 l0_1.length c0_1]] ?_; (with_reducible refine (spec_pzGood.calls k a0_0 _ _ l0_1 true _ ?side1 ?side2 A2.out).mono ?_); (case side1 => repeat (first | exact (Kd.C_below HR0_1.out HB.out) | (with_reducible refine Kd.C_alloc ?_ _) | (with_reducible refine Kd.C_drewN ?_ _) | (with_reducible refine Kd.C_drew ?_))); (case side2 => exact HC0_1.out); rintro e w7 ⟨rfl, hb⟩; refine ⟨_, rfl, ?_⟩; replace BK212 := nk BK212 hb; replace HB := bs hb; (try clear hb); have hcz8_0 := bc BK212 0 (.int .i64 a0_0); have hcz8_1 := bc BK212 1 (.slice A0_1 l0_1.length c0_1); have hfz8_0 := blk_frozen BK212.out 0; have hfz8_1 := blk_frozen BK212.out 1) | ((with_reducible refine gate_callee (f := 73) rfl ?_); refine gl (some 14) Tryd.func73 #[.int .i64 a0_0, .slice A0_1 l0_1.length c0_1] ?_; (with_reducible refine (spec_pzAll.calls k a0_0 _ _ l0_1 t214 _ ?side1 ?side2 A4.out).mono ?_); (case side1 => repeat (first | exact (Kd.C_below HR0_1.out HB.out) | (with_reducible refine Kd.C_alloc ?_ _) | (with_reducible refine Kd.C_drewN ?_ _) | (with_reducible refine Kd.C_drew ?_))); (case side2 => exact HC0_1.out); rintro e w9 ⟨v215, rfl, ho0, hb⟩; refine ⟨_, rfl, ?_⟩; have HO216 := Aside0.mk (Kd.R_lower ho0 (below_size bw)); replace BK212 := nk BK212 hb; replace HB := bs hb; (try clear hb); (try clear ho0); obtain ⟨Ao10, co10, eo10⟩ := Kd.R_slice HO216.out; subst eo10; have hcz11_0 := bc BK212 0 (.int .i64 a0_0); have hcz11_1 := bc BK212 1 (.slice A0_1 l0_1.length c0_1); have hfz11_0 := blk_frozen BK212.out 0; have hfz11_1 := blk_frozen BK212.out 1))
  go_loopg [4, 19] k (fun kq v4 v19 w' => ∃ (x4_1 : List Int) (x19_1 : Int), v19 = .int .i64 x19_1 ∧ Aside0 (spec_NeedlessClues.l0 kq x4_1 (t214.length : Int) (l0_1.length : Int) x19_1 a0_0 l0_1 = some (r1, r2)) ∧ Aside0 (kq ≤ k) ∧ Aside0 (Kd.R (Kd.int .i64) 3 w' w.heap.size (fun _ => True) v4 x4_1) ∧ Aside0 (w'.heap[gb212]? = some (.cells #[.int .i64 a0_0, (.slice A0_1 l0_1.length c0_1)] 38 (0, 0))) ∧ Aside0 (Below w.heap.size w w'))
  case atStart => exact ⟨(([] : List Int)), (0), (rs), H', ⟨Nat.le_refl _⟩, ⟨by first | exact Kd.R_nil _ _ _ _ _ | exact Kd.N_nil _ _ _ _ _ | exact Kd.V_nil _ _ _ _ _ | exact Kd.Q_nil _ _ _ _ _ | exact Kd.S_nil _ _ _ _ _⟩, ⟨pk BK212⟩, ⟨bw⟩⟩
  case round =>
   clear H'
   try clear p2
   try clear c3
   try clear c4
   try clear c7
   try clear hcz11_0
   try clear hcz11_1
   try clear hcz6_0
   try clear hcz6_1
   try clear hcz8_0
   try clear hcz8_1
   try clear hfz11_0
   try clear hfz11_1
   try clear hfz6_0
   try clear hfz6_1
   try clear hfz8_0
   try clear hfz8_1
   obtain ⟨x4_1, x19_1, rfl, HA, HK1, HO_4, BK212, HB⟩ := hrel
   cases gk with
   | zero => exact absurd HA.out (by simp [spec_NeedlessClues.l0])
   | succ k1 =>
    have H := HA.out
    clear HA
    simp only [spec_NeedlessClues.l0] at H
    by_cases c12 : x19_1 < (l0_1.length : Int)
    ·rw [if_pos c12] at H
     have c12b0 : decide (x19_1 < (l0_1.length : Int)) = true := decide_eq_true c12
     clear c12
     replace H := Option.bind_eq_some_iff.mp H
     obtain ⟨t217, A130, H⟩ := H
     (try dsimp only at H)
     have A13 := Aside0.mk A130
     clear A130
     replace H := Option.bind_eq_some_iff.mp H
     obtain ⟨t220, A140, H⟩ := H
     (try dsimp only at H)
     have A14 := Aside0.mk A140
     clear A140
     by_cases c15 : (t220.length : Int) = (t214.length : Int)
     ·rw [if_pos c15] at H
      have c15b0 : ((t220.length : Int) == (t214.length : Int)) = true := beq_iff_eq.mpr c15
      have c15b1 : ((t220.length : Int) != (t214.length : Int)) = false := bne_eq_false_iff_eq.mpr c15
      have c15b2 : (t220.length == t214.length) = true := by first | simpa using c15 | (simp at c15 ⊢; omega)
      clear c15
      by_cases c16 : x4_1.length < 17592186044416
      ·rw [if_pos c16] at H
       have LMc16 := Aside0.mk c16
       clear c16
       obtain ⟨y223, hy223⟩ : ∃ y_ : List Int, y_ = (x4_1 ++ [x19_1]) := ⟨_, rfl⟩
       replace H : (spec_NeedlessClues.l0 k1 y223 (t214.length : Int) (l0_1.length : Int) (wrap64 (x19_1 + 1)) a0_0 l0_1) = some (r1, r2) := by first | (rw [hy223]; with_reducible exact H) | (have H2_ := (Option.bind_some _ _).symm.trans H; rw [hy223]; with_reducible exact H2_) | (have H2_ := (Option.bind_some _ _).symm.trans H; with_reducible exact H2_) | with_reducible exact H | (rw [hy223]; exact H) | exact H
       have Ny223 := Aside0.mk hy223
       clear hy223
       have H' := Aside0.mk H
       clear H
       try go_wp2
       replace HO_4 := Aside0.mk (Kd.R_drew HO_4.out)
       replace BK212 := Aside0.mk (blk_drew BK212.out)
       replace HB := Aside0.mk (below_drew1 HB.out)
       refine start_ (n := 10) (S := fun w' => w'.cell? ⟨gb212, 0, none⟩ = some (.int .i64 a0_0) ∧ w'.cell? ⟨gb212, 1, none⟩ = some (.slice A0_1 l0_1.length c0_1)) (ds := []) #[false, false, false, false, false, false, false, false, false, false] (by kernel_rfl) rfl rfl ⟨ec BK212, ec BK212⟩ (fun hHeld => ?_); refine with_tabW spec_NeedlessClues.tab8 spec_NeedlessClues.bits8 (fun HT_ HW_ => ?_)
       generalize wr.drew = w17 at HO_4 BK212 HB hHeld ⊢
       refine pu 0 (some 22) #[true, false, false, false, false, false, false, false, false, false] ?_
       refine pu 2 (some 24) #[true, false, true, false, false, false, false, false, false, false] ?_
       refine pu 4 (some 26) #[true, false, true, false, true, false, false, false, false, false] ?_
       refine pu 8 (some 30) #[true, false, true, false, true, false, false, false, true, false] ?_
       refine take_ (i := 1) (N := some 23) (v := ?_) (a' := ?_) #[true, true, true, false, true, false, false, false, true, false] rfl rfl (take_ofW HT_.out HW_.out (by kernel_rfl)) (fun _ _ _ h => h) (Or.inl ⟨by rfl, ?_⟩) hHeld ?_ ?_
       rotate_left
       ·rintro w' ⟨s0, s1⟩
        go_simp
        with_reducible rfl
       rotate_left
       ·simp only [Act.put, List.setIfInBounds_toArray, List.set_cons_zero, List.set_cons_succ, i64_w, i32_w]
        rfl
       refine take_ (i := 3) (N := some 25) (v := ?_) (a' := ?_) #[true, true, true, true, true, false, false, false, true, false] rfl rfl (take_ofW HT_.out HW_.out (by kernel_rfl)) (fun _ _ _ h => h) (Or.inl ⟨by rfl, ?_⟩) hHeld ?_ ?_
       rotate_left
       ·rintro w' ⟨s0, s1⟩
        go_simp
        with_reducible rfl
       rotate_left
       ·simp only [Act.put, List.setIfInBounds_toArray, List.set_cons_zero, List.set_cons_succ, i64_w, i32_w]
        rfl
       refine one_ (i := 5) (N := some 27) #[true, true, true, true, true, true, false, false, true, false] rfl rfl (one_of HT_.out (by kernel_rfl)) (by decide) (fun K hK => ?_)
       refine goes_ Tryd.func79 (by kernel_rfl) rfl #[.slice A0_1 l0_1.length c0_1, .int .i64 x19_1] (by rfl) rfl rfl (by (try simp only [List.map_toArray, List.map_cons, List.map_nil]); first | done | rfl | (simp only [List.length_drop, List.length_take]; rfl)) ?_
       with_reducible refine (spec_pzWithout.calls _ _ l0_1 x19_1 t217 _ ?side1 ?side2 A13.out).mono ?_
       (case side1 => repeat (first | exact (Kd.C_below HR0_1.out HB.out) | (with_reducible refine Kd.C_alloc ?_ _) | (with_reducible refine Kd.C_drewN ?_ _) | (with_reducible refine Kd.C_drew ?_)))
       (case side2 => exact HC0_1.out)
       rintro e w18 ⟨v218, rfl, ho0, hb⟩
       refine ⟨_, rfl, ?_⟩
       replace HO_4 := Aside0.mk (Kd.R_below (pr HO_4) hb)
       have HO219 := Aside0.mk (Kd.R_lower ho0 (below_size bw))
       replace BK212 := nk BK212 hb
       replace HB := bs hb
       (try clear hb)
       (try clear ho0)
       obtain ⟨Ao19, co19, eo19⟩ := Kd.R_slice HO219.out
       (first | subst eo19 | (injection eo19 with f1_ f2_ f3_; have f4_ := f1_.symm; have f5_ := f3_.symm; clear f1_ f2_ f3_; subst f4_; subst f5_))
       refine hK.out _ _ ⟨ec BK212, ec BK212⟩ (fun hHeld => ?_)
       clear hK K
       refine nm (some 27) ?_
       refine one_ (i := 6) (N := some 28) #[true, true, true, true, true, true, true, false, true, false] rfl rfl (one_of HT_.out (by kernel_rfl)) (by decide) (fun K hK => ?_)
       refine goes_ Tryd.func73 (by kernel_rfl) rfl #[.int .i64 a0_0, .slice Ao19 t217.length co19] (by rfl) rfl rfl (by (try simp only [List.map_toArray, List.map_cons, List.map_nil]); first | done | rfl | (simp only [List.length_drop, List.length_take]; rfl)) ?_
       with_reducible refine (spec_pzAll.calls k1 a0_0 _ _ t217 t220 _ ?side1 ?side2 A14.out).mono ?_
       (case side1 => repeat (first | exact (Kd.R_reads' HO219.out).2.2 | (with_reducible refine Kd.C_alloc ?_ _) | (with_reducible refine Kd.C_drewN ?_ _) | (with_reducible refine Kd.C_drew ?_)))
       (case side2 => exact (Kd.R_reads' HO219.out).2.1)
       rintro e w20 ⟨v221, rfl, ho0, hb⟩
       refine ⟨_, rfl, ?_⟩
       replace HO_4 := Aside0.mk (Kd.R_below (pr HO_4) hb)
       replace HO219 := Aside0.mk (Kd.R_below (pr HO219) hb)
       have HO222 := Aside0.mk (Kd.R_lower ho0 (below_size bw))
       replace BK212 := nk BK212 hb
       replace HB := bs hb
       (try clear hb)
       (try clear ho0)
       obtain ⟨Ao21, co21, eo21⟩ := Kd.R_slice HO222.out
       (first | subst eo21 | (injection eo21 with f1_ f2_ f3_; have f4_ := f1_.symm; have f5_ := f3_.symm; clear f1_ f2_ f3_; subst f4_; subst f5_))
       refine hK.out _ _ ⟨ec BK212, ec BK212⟩ (fun hHeld => ?_)
       clear hK K
       refine nm (some 28) ?_
       refine pu 7 (some 29) #[true, true, true, true, true, true, true, true, true, false] ?_
       refine pu 9 (some 31) #[true, true, true, true, true, true, true, true, true, true] ?_
       refine done_ (done_of HT_.out (by kernel_rfl)) ?_
       try go_wp2_with (first | ((with_reducible refine gate_builtin (b := .append) (xs := #[.tmp 32, .tmp 34]) rfl ?_); at_builtin; refine Kd.R_append (Kd.int .i64) (w0 := w) w.heap.size rfl (.tmp 32) (.tmp 34) 55 3 (.int .i64 0) 8 rfl Tryd.underlying55 info3 rfl (by decide) (by omega) u4 x4_1 x19_1 [.int .i64 x19_1] (fun _ => True) (fun _ => False) rfl rfl ?aP (fun _ hk => hk.elim) ?aF ?aO ?aB ?aS ?aL ?_; (case aP => exact rfl); (case aB => exact bw); (case aF => exact (fun _ _ => trivial)); (case aO => exact (pr HO_4)); (case aS => exact (below_size bw)); (case aL => have := LMc16.out; omega); intro v224 w22 ho hb hg hat; rw [← Ny223.out] at ho; have n0_ := Aside0.mk (blk_grown (pk BK212) hg (Kd.R_ne HO_4.out BK212.out (by decide))); have n1_ := Aside0.mk (Kd.R_over' (pr HO219) (Kd.R_typed (pr HO_4)) (by decide) hg); have n2_ := Aside0.mk (Kd.R_over' (pr HO222) (Kd.R_typed (pr HO_4)) (by decide) hg); have n3_ := Aside0.mk (hb); have n4_ := Aside0.mk (ho); clear BK212; clear HO219; clear HO222; clear HB; clear HO_4; have BK212 := n0_; have HO219 := n1_; have HO222 := n2_; have HB := n3_; have HO225 := n4_; clear n0_ n1_ n2_ n3_ n4_; clear ho hb hg hat))
       go_roundg k1
       case measure => have := HK1.out; omega
       case rel => exact ⟨(y223), (wrap64 (x19_1 + 1)), (rs), H', ⟨by have := HK1.out; omega⟩, ⟨pr HO225⟩, ⟨pk BK212⟩, ⟨bw⟩⟩
      ·rw [if_neg c16] at H
       exact absurd H (by simp)
     ·rw [if_neg c15] at H
      have c15b0 : ((t220.length : Int) == (t214.length : Int)) = false := beq_eq_false_iff_ne.mpr c15
      have c15b1 : ((t220.length : Int) != (t214.length : Int)) = true := bne_iff_ne.mpr c15
      have c15b2 : (t220.length == t214.length) = false := by first | simpa using c15 | (simp at c15 ⊢; omega)
      have H' := Aside0.mk H
      clear H
      try go_wp2
      replace HO_4 := Aside0.mk (Kd.R_drew HO_4.out)
      replace BK212 := Aside0.mk (blk_drew BK212.out)
      replace HB := Aside0.mk (below_drew1 HB.out)
      refine start_ (n := 10) (S := fun w' => w'.cell? ⟨gb212, 0, none⟩ = some (.int .i64 a0_0) ∧ w'.cell? ⟨gb212, 1, none⟩ = some (.slice A0_1 l0_1.length c0_1)) (ds := []) #[false, false, false, false, false, false, false, false, false, false] (by kernel_rfl) rfl rfl ⟨ec BK212, ec BK212⟩ (fun hHeld => ?_); refine with_tabW spec_NeedlessClues.tab8 spec_NeedlessClues.bits8 (fun HT_ HW_ => ?_)
      generalize wr.drew = w23 at HO_4 BK212 HB hHeld ⊢
      refine pu 0 (some 22) #[true, false, false, false, false, false, false, false, false, false] ?_
      refine pu 2 (some 24) #[true, false, true, false, false, false, false, false, false, false] ?_
      refine pu 4 (some 26) #[true, false, true, false, true, false, false, false, false, false] ?_
      refine pu 8 (some 30) #[true, false, true, false, true, false, false, false, true, false] ?_
      refine take_ (i := 1) (N := some 23) (v := ?_) (a' := ?_) #[true, true, true, false, true, false, false, false, true, false] rfl rfl (take_ofW HT_.out HW_.out (by kernel_rfl)) (fun _ _ _ h => h) (Or.inl ⟨by rfl, ?_⟩) hHeld ?_ ?_
      rotate_left
      ·rintro w' ⟨s0, s1⟩
       go_simp
       with_reducible rfl
      rotate_left
      ·simp only [Act.put, List.setIfInBounds_toArray, List.set_cons_zero, List.set_cons_succ, i64_w, i32_w]
       rfl
      refine take_ (i := 3) (N := some 25) (v := ?_) (a' := ?_) #[true, true, true, true, true, false, false, false, true, false] rfl rfl (take_ofW HT_.out HW_.out (by kernel_rfl)) (fun _ _ _ h => h) (Or.inl ⟨by rfl, ?_⟩) hHeld ?_ ?_
      rotate_left
      ·rintro w' ⟨s0, s1⟩
       go_simp
       with_reducible rfl
      rotate_left
      ·simp only [Act.put, List.setIfInBounds_toArray, List.set_cons_zero, List.set_cons_succ, i64_w, i32_w]
       rfl
      refine one_ (i := 5) (N := some 27) #[true, true, true, true, true, true, false, false, true, false] rfl rfl (one_of HT_.out (by kernel_rfl)) (by decide) (fun K hK => ?_)
      refine goes_ Tryd.func79 (by kernel_rfl) rfl #[.slice A0_1 l0_1.length c0_1, .int .i64 x19_1] (by rfl) rfl rfl (by (try simp only [List.map_toArray, List.map_cons, List.map_nil]); first | done | rfl | (simp only [List.length_drop, List.length_take]; rfl)) ?_
      with_reducible refine (spec_pzWithout.calls _ _ l0_1 x19_1 t217 _ ?side1 ?side2 A13.out).mono ?_
      (case side1 => repeat (first | exact (Kd.C_below HR0_1.out HB.out) | (with_reducible refine Kd.C_alloc ?_ _) | (with_reducible refine Kd.C_drewN ?_ _) | (with_reducible refine Kd.C_drew ?_)))
      (case side2 => exact HC0_1.out)
      rintro e w24 ⟨v218, rfl, ho0, hb⟩
      refine ⟨_, rfl, ?_⟩
      replace HO_4 := Aside0.mk (Kd.R_below (pr HO_4) hb)
      have HO219 := Aside0.mk (Kd.R_lower ho0 (below_size bw))
      replace BK212 := nk BK212 hb
      replace HB := bs hb
      (try clear hb)
      (try clear ho0)
      obtain ⟨Ao25, co25, eo25⟩ := Kd.R_slice HO219.out
      (first | subst eo25 | (injection eo25 with f1_ f2_ f3_; have f4_ := f1_.symm; have f5_ := f3_.symm; clear f1_ f2_ f3_; subst f4_; subst f5_))
      refine hK.out _ _ ⟨ec BK212, ec BK212⟩ (fun hHeld => ?_)
      clear hK K
      refine nm (some 27) ?_
      refine one_ (i := 6) (N := some 28) #[true, true, true, true, true, true, true, false, true, false] rfl rfl (one_of HT_.out (by kernel_rfl)) (by decide) (fun K hK => ?_)
      refine goes_ Tryd.func73 (by kernel_rfl) rfl #[.int .i64 a0_0, .slice Ao25 t217.length co25] (by rfl) rfl rfl (by (try simp only [List.map_toArray, List.map_cons, List.map_nil]); first | done | rfl | (simp only [List.length_drop, List.length_take]; rfl)) ?_
      with_reducible refine (spec_pzAll.calls k1 a0_0 _ _ t217 t220 _ ?side1 ?side2 A14.out).mono ?_
      (case side1 => repeat (first | exact (Kd.R_reads' HO219.out).2.2 | (with_reducible refine Kd.C_alloc ?_ _) | (with_reducible refine Kd.C_drewN ?_ _) | (with_reducible refine Kd.C_drew ?_)))
      (case side2 => exact (Kd.R_reads' HO219.out).2.1)
      rintro e w26 ⟨v221, rfl, ho0, hb⟩
      refine ⟨_, rfl, ?_⟩
      replace HO_4 := Aside0.mk (Kd.R_below (pr HO_4) hb)
      replace HO219 := Aside0.mk (Kd.R_below (pr HO219) hb)
      have HO222 := Aside0.mk (Kd.R_lower ho0 (below_size bw))
      replace BK212 := nk BK212 hb
      replace HB := bs hb
      (try clear hb)
      (try clear ho0)
      obtain ⟨Ao27, co27, eo27⟩ := Kd.R_slice HO222.out
      (first | subst eo27 | (injection eo27 with f1_ f2_ f3_; have f4_ := f1_.symm; have f5_ := f3_.symm; clear f1_ f2_ f3_; subst f4_; subst f5_))
      refine hK.out _ _ ⟨ec BK212, ec BK212⟩ (fun hHeld => ?_)
      clear hK K
      refine nm (some 28) ?_
      refine pu 7 (some 29) #[true, true, true, true, true, true, true, true, true, false] ?_
      refine pu 9 (some 31) #[true, true, true, true, true, true, true, true, true, true] ?_
      refine done_ (done_of HT_.out (by kernel_rfl)) ?_
      try go_wp2
      go_roundg k1
      case measure => have := HK1.out; omega
      case rel => exact ⟨(x4_1), (wrap64 (x19_1 + 1)), (rs), H', ⟨by have := HK1.out; omega⟩, ⟨pr HO_4⟩, ⟨pk BK212⟩, ⟨bw⟩⟩
    ·rw [if_neg c12] at H
     have c12b0 : decide (x19_1 < (l0_1.length : Int)) = false := decide_eq_false c12
     clear c12
     simp only [Option.some.injEq, Prod.mk.injEq] at H
     obtain ⟨rfl, rfl⟩ := H
     go_wp2
     go_ret2
     exact ⟨_, rs, pr HO_4, bw⟩
 ·replace c3 := Bool.eq_false_iff.mpr c3
  subst c3
  rw [if_neg (show ¬ (false = true) by decide)] at H
  simp only [Option.some.injEq, Prod.mk.injEq] at H
  obtain ⟨rfl, rfl⟩ := H
  go_enter Tryd.func49, Tryd.ntmps49
  go_wp2_with (first | ((with_reducible refine gate_dst (N := 1) rfl ?_); refine bx 1 38 #[.int .i64 a0_0, .slice A0_1 l0_1.length c0_1] ?_; intro gb212 hg w28 hbox hb; have BK212 := hbox; have GW212 := gs hg; have GE212 := gs hg; replace HB := bs hb; clear hb hbox hg; have hcz29_0 := bc BK212 0 (.int .i64 a0_0); have hcz29_1 := bc BK212 1 (.slice A0_1 l0_1.length c0_1); have hfz29_0 := blk_frozen BK212.out 0; have hfz29_1 := blk_frozen BK212.out 1) | ((with_reducible refine gate_callee (f := 72) rfl ?_); refine gl (some 8) Tryd.func72 #[.agg #[.int .i64 a0_0, .slice A0_1 l0_1.length c0_1]] ?_; (with_reducible refine (spec_pzGood.calls k a0_0 _ _ l0_1 false _ ?side1 ?side2 A2.out).mono ?_); (case side1 => repeat (first | exact (Kd.C_below HR0_1.out HB.out) | (with_reducible refine Kd.C_alloc ?_ _) | (with_reducible refine Kd.C_drewN ?_ _) | (with_reducible refine Kd.C_drew ?_))); (case side2 => exact HC0_1.out); rintro e w30 ⟨rfl, hb⟩; refine ⟨_, rfl, ?_⟩; replace BK212 := nk BK212 hb; replace HB := bs hb; (try clear hb)))
  go_ret2
  exact ⟨_, rs, by first | exact Kd.R_nil _ _ _ _ _ | exact Kd.N_nil _ _ _ _ _ | exact Kd.V_nil _ _ _ _ _ | exact Kd.Q_nil _ _ _ _ _ | exact Kd.S_nil _ _ _ _ _, bw⟩

/-! ### impl_in: function 65 -/
def impl_in.f (a0 : Int) (a1 : Int) (a2 : Int) : Option (Bool) := if a1 ≤ a0 then (some (decide (a0 ≤ a2))) else (some false)
set_option maxHeartbeats 8000000 in
set_option maxRecDepth 100000 in
theorem impl_in.calls (a0 : Int) (a1 : Int) (a2 : Int) (r : Bool) (w : World) (h : impl_in.f a0 a1 a2 = some r) :
  Calls Tryd.prog 65 #[.int .i64 a0, .int .i64 a1, .int .i64 a2] w fun e w' => e = .returned (.bool r) ∧ Drawn0 w w' := by
 unfold impl_in.f at h
 have H := h
 clear h
 by_cases c4 : a1 ≤ a0
 ·rw [if_pos c4] at H
  have c4b0 : decide (a1 ≤ a0) = true := decide_eq_true c4
  clear c4
  obtain rfl := Option.some.inj H
  go_enter Tryd.func65, Tryd.ntmps65
  go_wp2
  go_ret
  exact ⟨rs, by repeat (first | exact Drawn0.refl _ | apply Drawn0.step)⟩
 ·rw [if_neg c4] at H
  have c4b0 : decide (a1 ≤ a0) = false := decide_eq_false c4
  clear c4
  obtain rfl := Option.some.inj H
  go_enter Tryd.func65, Tryd.ntmps65
  go_wp2
  go_ret
  exact ⟨rs, by repeat (first | exact Drawn0.refl _ | apply Drawn0.step)⟩

/-! ### impl_isHidden: function 64 -/
def impl_isHidden.f (a0 : Int) : Option (Bool) := (impl_in.f a0 1 8).bind fun t226 => (some t226)
set_option maxHeartbeats 8000000 in
set_option maxRecDepth 100000 in
theorem impl_isHidden.calls (a0 : Int) (r : Bool) (w : World) (h : impl_isHidden.f a0 = some r) :
  Calls Tryd.prog 64 #[.int .i64 a0] w fun e w' => e = .returned (.bool r) ∧ Drawn0 w w' := by
 unfold impl_isHidden.f at h
 have H := h
 clear h
 replace H := Option.bind_eq_some_iff.mp H
 obtain ⟨t226, A20, H⟩ := H
 (try dsimp only at H)
 have A2 := Aside0.mk A20
 clear A20
 obtain rfl := Option.some.inj H
 go_enter Tryd.func64, Tryd.ntmps64
 go_wp2_with (first | ((with_reducible refine gate_callee (f := 65) rfl ?_); refine gl (some 4) Tryd.func65 #[.int .i64 a0, .int .i64 1, .int .i64 8] ?_; (with_reducible refine (impl_in.calls a0 1 8 t226 _ A2.out).mono ?_); rintro e w' ⟨rfl, ⟨nd, rfl⟩⟩; refine ⟨_, rfl, ?_⟩))
 go_ret
 exact ⟨rs, by repeat (first | exact Drawn0.refl _ | apply Drawn0.step)⟩

/-! ### impl_isClue: function 59 -/
def impl_isClue.f (a0 : Int) (a1_0 : Int) (a1_1 : Int) (a1_2 : Int) (a1_3 : Int) : Option (Bool) := (impl_isHidden.f a0).bind fun t228 => (if t228 = true then (if a1_0 = 0 then ((impl_in.f a1_1 0 (wrap64 (a0 - 1))).bind fun t229 => (if t229 = true then ((impl_in.f a1_2 0 20).bind fun t230 => (if t230 = true then ((impl_in.f a1_3 0 1).bind fun t231 => (some t231)) else (some false))) else (some false))) else (if a1_0 = 1 then (if a1_1 = 0 then (if a1_2 = 0 then ((impl_in.f a1_3 0 a0).bind fun t232 => (some t232)) else (some false)) else (some false)) else (if a1_0 = 2 then (if a1_1 = 0 then (if a1_2 = 0 then ((impl_in.f a1_3 0 20).bind fun t233 => (some t233)) else (some false)) else (some false)) else (if a1_0 = 3 then (if a1_1 = 0 then (if a1_2 = 0 then ((impl_in.f a1_3 0 8).bind fun t234 => (some t234)) else (some false)) else (some false)) else (if a1_0 = 4 then ((impl_in.f a1_1 0 (wrap64 (a0 - 1))).bind fun t235 => (if t235 = true then (if a1_2 = 0 then ((impl_in.f a1_3 0 20).bind fun t236 => (some t236)) else (some false)) else (some false))) else (some false)))))) else (some false))
set_option maxHeartbeats 8000000 in
set_option maxRecDepth 100000 in
theorem impl_isClue.calls (a0 : Int) (a1_0 : Int) (a1_1 : Int) (a1_2 : Int) (a1_3 : Int) (r : Bool) (w : World) (h : impl_isClue.f a0 a1_0 a1_1 a1_2 a1_3 = some r) :
  Calls Tryd.prog 59 #[.int .i64 a0, .agg #[.int .i64 a1_0, .int .i64 a1_1, .int .i64 a1_2, .int .i64 a1_3]] w fun e w' => e = .returned (.bool r) ∧ Below w.heap.size w w' := by
 have hu33 := Tryd.underlying33
 have HB := Aside0.mk (Below.refl w.heap.size w)
 unfold impl_isClue.f at h
 have H := h
 clear h
 replace H := Option.bind_eq_some_iff.mp H
 obtain ⟨t228, A30, H⟩ := H
 (try dsimp only at H)
 have A3 := Aside0.mk A30
 clear A30
 by_cases c4 : t228 = true
 ·subst c4
  rw [if_pos rfl] at H
  by_cases c5 : a1_0 = 0
  ·rw [if_pos c5] at H
   have c5b0 : (a1_0 == 0) = true := beq_iff_eq.mpr c5
   have c5b1 : (a1_0 != 0) = false := bne_eq_false_iff_eq.mpr c5
   clear c5
   replace H := Option.bind_eq_some_iff.mp H
   obtain ⟨t229, A60, H⟩ := H
   (try dsimp only at H)
   have A6 := Aside0.mk A60
   clear A60
   by_cases c7 : t229 = true
   ·subst c7
    rw [if_pos rfl] at H
    replace H := Option.bind_eq_some_iff.mp H
    obtain ⟨t230, A80, H⟩ := H
    (try dsimp only at H)
    have A8 := Aside0.mk A80
    clear A80
    by_cases c9 : t230 = true
    ·subst c9
     rw [if_pos rfl] at H
     replace H := Option.bind_eq_some_iff.mp H
     obtain ⟨t231, A100, H⟩ := H
     (try dsimp only at H)
     have A10 := Aside0.mk A100
     clear A100
     obtain rfl := Option.some.inj H
     go_enter Tryd.func59, Tryd.ntmps59
     go_wp2_with (first | ((with_reducible refine gate_dst (N := 3) rfl ?_); refine bx 3 33 #[.int .i64 a1_0, .int .i64 a1_1, .int .i64 a1_2, .int .i64 a1_3] ?_; intro gb227 hg w11 hbox hb; have BK227 := hbox; have GW227 := gs hg; have GE227 := gs hg; replace HB := bs hb; clear hb hbox hg) | ((with_reducible refine gate_callee (f := 64) rfl ?_); refine gl (some 6) Tryd.func64 #[.int .i64 a0] ?_; (with_reducible refine (impl_isHidden.calls a0 true _ A3.out).mono ?_); rintro e w' ⟨rfl, ⟨nd, rfl⟩⟩; refine ⟨_, rfl, ?_⟩; have hcz12_0 := bc BK227 0 (.int .i64 a1_0); have hcz12_1 := bc BK227 1 (.int .i64 a1_1); have hcz12_2 := bc BK227 2 (.int .i64 a1_2); have hcz12_3 := bc BK227 3 (.int .i64 a1_3); have hfz12_0 := blk_frozen BK227.out 0; have hfz12_1 := blk_frozen BK227.out 1; have hfz12_2 := blk_frozen BK227.out 2; have hfz12_3 := blk_frozen BK227.out 3) | ((with_reducible refine gate_callee (f := 65) rfl ?_); refine gl (some 16) Tryd.func65 #[.int .i64 a1_1, .int .i64 0, .int .i64 (wrap64 (a0 - 1))] ?_; (with_reducible refine (impl_in.calls a1_1 0 (wrap64 (a0 - 1)) true _ A6.out).mono ?_); rintro e w' ⟨rfl, ⟨nd, rfl⟩⟩; refine ⟨_, rfl, ?_⟩) | (go_at_call 65; (with_reducible refine (impl_in.calls a1_2 0 20 true _ A8.out).mono ?_); rintro e w' ⟨rfl, ⟨nd, rfl⟩⟩) | (go_at_call 65; (with_reducible refine (impl_in.calls a1_3 0 1 t231 _ A10.out).mono ?_); rintro e w' ⟨rfl, ⟨nd, rfl⟩⟩))
     go_ret
     exact ⟨rs, bw⟩
    ·replace c9 := Bool.eq_false_iff.mpr c9
     subst c9
     rw [if_neg (show ¬ (false = true) by decide)] at H
     obtain rfl := Option.some.inj H
     go_enter Tryd.func59, Tryd.ntmps59
     go_wp2_with (first | ((with_reducible refine gate_dst (N := 3) rfl ?_); refine bx 3 33 #[.int .i64 a1_0, .int .i64 a1_1, .int .i64 a1_2, .int .i64 a1_3] ?_; intro gb227 hg w13 hbox hb; have BK227 := hbox; have GW227 := gs hg; have GE227 := gs hg; replace HB := bs hb; clear hb hbox hg) | ((with_reducible refine gate_callee (f := 64) rfl ?_); refine gl (some 6) Tryd.func64 #[.int .i64 a0] ?_; (with_reducible refine (impl_isHidden.calls a0 true _ A3.out).mono ?_); rintro e w' ⟨rfl, ⟨nd, rfl⟩⟩; refine ⟨_, rfl, ?_⟩; have hcz14_0 := bc BK227 0 (.int .i64 a1_0); have hcz14_1 := bc BK227 1 (.int .i64 a1_1); have hcz14_2 := bc BK227 2 (.int .i64 a1_2); have hcz14_3 := bc BK227 3 (.int .i64 a1_3); have hfz14_0 := blk_frozen BK227.out 0; have hfz14_1 := blk_frozen BK227.out 1; have hfz14_2 := blk_frozen BK227.out 2; have hfz14_3 := blk_frozen BK227.out 3) | ((with_reducible refine gate_callee (f := 65) rfl ?_); refine gl (some 16) Tryd.func65 #[.int .i64 a1_1, .int .i64 0, .int .i64 (wrap64 (a0 - 1))] ?_; (with_reducible refine (impl_in.calls a1_1 0 (wrap64 (a0 - 1)) true _ A6.out).mono ?_); rintro e w' ⟨rfl, ⟨nd, rfl⟩⟩; refine ⟨_, rfl, ?_⟩) | (go_at_call 65; (with_reducible refine (impl_in.calls a1_2 0 20 false _ A8.out).mono ?_); rintro e w' ⟨rfl, ⟨nd, rfl⟩⟩))
     go_ret
     exact ⟨rs, bw⟩
   ·replace c7 := Bool.eq_false_iff.mpr c7
    subst c7
    rw [if_neg (show ¬ (false = true) by decide)] at H
    obtain rfl := Option.some.inj H
    go_enter Tryd.func59, Tryd.ntmps59
    go_wp2_with (first | ((with_reducible refine gate_dst (N := 3) rfl ?_); refine bx 3 33 #[.int .i64 a1_0, .int .i64 a1_1, .int .i64 a1_2, .int .i64 a1_3] ?_; intro gb227 hg w15 hbox hb; have BK227 := hbox; have GW227 := gs hg; have GE227 := gs hg; replace HB := bs hb; clear hb hbox hg) | ((with_reducible refine gate_callee (f := 64) rfl ?_); refine gl (some 6) Tryd.func64 #[.int .i64 a0] ?_; (with_reducible refine (impl_isHidden.calls a0 true _ A3.out).mono ?_); rintro e w' ⟨rfl, ⟨nd, rfl⟩⟩; refine ⟨_, rfl, ?_⟩; have hcz16_0 := bc BK227 0 (.int .i64 a1_0); have hcz16_1 := bc BK227 1 (.int .i64 a1_1); have hcz16_2 := bc BK227 2 (.int .i64 a1_2); have hcz16_3 := bc BK227 3 (.int .i64 a1_3); have hfz16_0 := blk_frozen BK227.out 0; have hfz16_1 := blk_frozen BK227.out 1; have hfz16_2 := blk_frozen BK227.out 2; have hfz16_3 := blk_frozen BK227.out 3) | ((with_reducible refine gate_callee (f := 65) rfl ?_); refine gl (some 16) Tryd.func65 #[.int .i64 a1_1, .int .i64 0, .int .i64 (wrap64 (a0 - 1))] ?_; (with_reducible refine (impl_in.calls a1_1 0 (wrap64 (a0 - 1)) false _ A6.out).mono ?_); rintro e w' ⟨rfl, ⟨nd, rfl⟩⟩; refine ⟨_, rfl, ?_⟩))
    go_ret
    exact ⟨rs, bw⟩
  ·rw [if_neg c5] at H
   have c5b0 : (a1_0 == 0) = false := beq_eq_false_iff_ne.mpr c5
   have c5b1 : (a1_0 != 0) = true := bne_iff_ne.mpr c5
   by_cases c17 : a1_0 = 1
   ·rw [if_pos c17] at H
    have c17b0 : (a1_0 == 1) = true := beq_iff_eq.mpr c17
    have c17b1 : (a1_0 != 1) = false := bne_eq_false_iff_eq.mpr c17
    clear c17
    by_cases c18 : a1_1 = 0
    ·rw [if_pos c18] at H
     have c18b0 : (a1_1 == 0) = true := beq_iff_eq.mpr c18
     have c18b1 : (a1_1 != 0) = false := bne_eq_false_iff_eq.mpr c18
     clear c18
     by_cases c19 : a1_2 = 0
     ·rw [if_pos c19] at H
      have c19b0 : (a1_2 == 0) = true := beq_iff_eq.mpr c19
      have c19b1 : (a1_2 != 0) = false := bne_eq_false_iff_eq.mpr c19
      clear c19
      replace H := Option.bind_eq_some_iff.mp H
      obtain ⟨t232, A200, H⟩ := H
      (try dsimp only at H)
      have A20 := Aside0.mk A200
      clear A200
      obtain rfl := Option.some.inj H
      go_enter Tryd.func59, Tryd.ntmps59
      go_wp2_with (first | ((with_reducible refine gate_dst (N := 3) rfl ?_); refine bx 3 33 #[.int .i64 a1_0, .int .i64 a1_1, .int .i64 a1_2, .int .i64 a1_3] ?_; intro gb227 hg w21 hbox hb; have BK227 := hbox; have GW227 := gs hg; have GE227 := gs hg; replace HB := bs hb; clear hb hbox hg) | ((with_reducible refine gate_callee (f := 64) rfl ?_); refine gl (some 6) Tryd.func64 #[.int .i64 a0] ?_; (with_reducible refine (impl_isHidden.calls a0 true _ A3.out).mono ?_); rintro e w' ⟨rfl, ⟨nd, rfl⟩⟩; refine ⟨_, rfl, ?_⟩; have hcz22_0 := bc BK227 0 (.int .i64 a1_0); have hcz22_1 := bc BK227 1 (.int .i64 a1_1); have hcz22_2 := bc BK227 2 (.int .i64 a1_2); have hcz22_3 := bc BK227 3 (.int .i64 a1_3); have hfz22_0 := blk_frozen BK227.out 0; have hfz22_1 := blk_frozen BK227.out 1; have hfz22_2 := blk_frozen BK227.out 2; have hfz22_3 := blk_frozen BK227.out 3) | (go_at_call 65; (with_reducible refine (impl_in.calls a1_3 0 a0 t232 _ A20.out).mono ?_); rintro e w' ⟨rfl, ⟨nd, rfl⟩⟩))
      go_ret
      exact ⟨rs, bw⟩
     ·rw [if_neg c19] at H
      have c19b0 : (a1_2 == 0) = false := beq_eq_false_iff_ne.mpr c19
      have c19b1 : (a1_2 != 0) = true := bne_iff_ne.mpr c19
      obtain rfl := Option.some.inj H
      go_enter Tryd.func59, Tryd.ntmps59
      go_wp2_with (first | ((with_reducible refine gate_dst (N := 3) rfl ?_); refine bx 3 33 #[.int .i64 a1_0, .int .i64 a1_1, .int .i64 a1_2, .int .i64 a1_3] ?_; intro gb227 hg w23 hbox hb; have BK227 := hbox; have GW227 := gs hg; have GE227 := gs hg; replace HB := bs hb; clear hb hbox hg) | ((with_reducible refine gate_callee (f := 64) rfl ?_); refine gl (some 6) Tryd.func64 #[.int .i64 a0] ?_; (with_reducible refine (impl_isHidden.calls a0 true _ A3.out).mono ?_); rintro e w' ⟨rfl, ⟨nd, rfl⟩⟩; refine ⟨_, rfl, ?_⟩; have hcz24_0 := bc BK227 0 (.int .i64 a1_0); have hcz24_1 := bc BK227 1 (.int .i64 a1_1); have hcz24_2 := bc BK227 2 (.int .i64 a1_2); have hcz24_3 := bc BK227 3 (.int .i64 a1_3); have hfz24_0 := blk_frozen BK227.out 0; have hfz24_1 := blk_frozen BK227.out 1; have hfz24_2 := blk_frozen BK227.out 2; have hfz24_3 := blk_frozen BK227.out 3))
      go_ret
      exact ⟨rs, bw⟩
    ·rw [if_neg c18] at H
     have c18b0 : (a1_1 == 0) = false := beq_eq_false_iff_ne.mpr c18
     have c18b1 : (a1_1 != 0) = true := bne_iff_ne.mpr c18
     obtain rfl := Option.some.inj H
     go_enter Tryd.func59, Tryd.ntmps59
     go_wp2_with (first | ((with_reducible refine gate_dst (N := 3) rfl ?_); refine bx 3 33 #[.int .i64 a1_0, .int .i64 a1_1, .int .i64 a1_2, .int .i64 a1_3] ?_; intro gb227 hg w25 hbox hb; have BK227 := hbox; have GW227 := gs hg; have GE227 := gs hg; replace HB := bs hb; clear hb hbox hg) | ((with_reducible refine gate_callee (f := 64) rfl ?_); refine gl (some 6) Tryd.func64 #[.int .i64 a0] ?_; (with_reducible refine (impl_isHidden.calls a0 true _ A3.out).mono ?_); rintro e w' ⟨rfl, ⟨nd, rfl⟩⟩; refine ⟨_, rfl, ?_⟩; have hcz26_0 := bc BK227 0 (.int .i64 a1_0); have hcz26_1 := bc BK227 1 (.int .i64 a1_1); have hcz26_2 := bc BK227 2 (.int .i64 a1_2); have hcz26_3 := bc BK227 3 (.int .i64 a1_3); have hfz26_0 := blk_frozen BK227.out 0; have hfz26_1 := blk_frozen BK227.out 1; have hfz26_2 := blk_frozen BK227.out 2; have hfz26_3 := blk_frozen BK227.out 3))
     go_ret
     exact ⟨rs, bw⟩
   ·rw [if_neg c17] at H
    have c17b0 : (a1_0 == 1) = false := beq_eq_false_iff_ne.mpr c17
    have c17b1 : (a1_0 != 1) = true := bne_iff_ne.mpr c17
    by_cases c27 : a1_0 = 2
    ·rw [if_pos c27] at H
     have c27b0 : (a1_0 == 2) = true := beq_iff_eq.mpr c27
     have c27b1 : (a1_0 != 2) = false := bne_eq_false_iff_eq.mpr c27
     clear c27
     by_cases c28 : a1_1 = 0
     ·rw [if_pos c28] at H
      have c28b0 : (a1_1 == 0) = true := beq_iff_eq.mpr c28
      have c28b1 : (a1_1 != 0) = false := bne_eq_false_iff_eq.mpr c28
      clear c28
      by_cases c29 : a1_2 = 0
      ·rw [if_pos c29] at H
       have c29b0 : (a1_2 == 0) = true := beq_iff_eq.mpr c29
       have c29b1 : (a1_2 != 0) = false := bne_eq_false_iff_eq.mpr c29
       clear c29
       replace H := Option.bind_eq_some_iff.mp H
       obtain ⟨t233, A300, H⟩ := H
       (try dsimp only at H)
       have A30 := Aside0.mk A300
       clear A300
       obtain rfl := Option.some.inj H
       go_enter Tryd.func59, Tryd.ntmps59
       go_wp2_with (first | ((with_reducible refine gate_dst (N := 3) rfl ?_); refine bx 3 33 #[.int .i64 a1_0, .int .i64 a1_1, .int .i64 a1_2, .int .i64 a1_3] ?_; intro gb227 hg w31 hbox hb; have BK227 := hbox; have GW227 := gs hg; have GE227 := gs hg; replace HB := bs hb; clear hb hbox hg) | ((with_reducible refine gate_callee (f := 64) rfl ?_); refine gl (some 6) Tryd.func64 #[.int .i64 a0] ?_; (with_reducible refine (impl_isHidden.calls a0 true _ A3.out).mono ?_); rintro e w' ⟨rfl, ⟨nd, rfl⟩⟩; refine ⟨_, rfl, ?_⟩; have hcz32_0 := bc BK227 0 (.int .i64 a1_0); have hcz32_1 := bc BK227 1 (.int .i64 a1_1); have hcz32_2 := bc BK227 2 (.int .i64 a1_2); have hcz32_3 := bc BK227 3 (.int .i64 a1_3); have hfz32_0 := blk_frozen BK227.out 0; have hfz32_1 := blk_frozen BK227.out 1; have hfz32_2 := blk_frozen BK227.out 2; have hfz32_3 := blk_frozen BK227.out 3) | (go_at_call 65; (with_reducible refine (impl_in.calls a1_3 0 20 t233 _ A30.out).mono ?_); rintro e w' ⟨rfl, ⟨nd, rfl⟩⟩))
       go_ret
       exact ⟨rs, bw⟩
      ·rw [if_neg c29] at H
       have c29b0 : (a1_2 == 0) = false := beq_eq_false_iff_ne.mpr c29
       have c29b1 : (a1_2 != 0) = true := bne_iff_ne.mpr c29
       obtain rfl := Option.some.inj H
       go_enter Tryd.func59, Tryd.ntmps59
       go_wp2_with (first | ((with_reducible refine gate_dst (N := 3) rfl ?_); refine bx 3 33 #[.int .i64 a1_0, .int .i64 a1_1, .int .i64 a1_2, .int .i64 a1_3] ?_; intro gb227 hg w33 hbox hb; have BK227 := hbox; have GW227 := gs hg; have GE227 := gs hg; replace HB := bs hb; clear hb hbox hg) | ((with_reducible refine gate_callee (f := 64) rfl ?_); refine gl (some 6) Tryd.func64 #[.int .i64 a0] ?_; (with_reducible refine (impl_isHidden.calls a0 true _ A3.out).mono ?_); rintro e w' ⟨rfl, ⟨nd, rfl⟩⟩; refine ⟨_, rfl, ?_⟩; have hcz34_0 := bc BK227 0 (.int .i64 a1_0); have hcz34_1 := bc BK227 1 (.int .i64 a1_1); have hcz34_2 := bc BK227 2 (.int .i64 a1_2); have hcz34_3 := bc BK227 3 (.int .i64 a1_3); have hfz34_0 := blk_frozen BK227.out 0; have hfz34_1 := blk_frozen BK227.out 1; have hfz34_2 := blk_frozen BK227.out 2; have hfz34_3 := blk_frozen BK227.out 3))
       go_ret
       exact ⟨rs, bw⟩
     ·rw [if_neg c28] at H
      have c28b0 : (a1_1 == 0) = false := beq_eq_false_iff_ne.mpr c28
      have c28b1 : (a1_1 != 0) = true := bne_iff_ne.mpr c28
      obtain rfl := Option.some.inj H
      go_enter Tryd.func59, Tryd.ntmps59
      go_wp2_with (first | ((with_reducible refine gate_dst (N := 3) rfl ?_); refine bx 3 33 #[.int .i64 a1_0, .int .i64 a1_1, .int .i64 a1_2, .int .i64 a1_3] ?_; intro gb227 hg w35 hbox hb; have BK227 := hbox; have GW227 := gs hg; have GE227 := gs hg; replace HB := bs hb; clear hb hbox hg) | ((with_reducible refine gate_callee (f := 64) rfl ?_); refine gl (some 6) Tryd.func64 #[.int .i64 a0] ?_; (with_reducible refine (impl_isHidden.calls a0 true _ A3.out).mono ?_); rintro e w' ⟨rfl, ⟨nd, rfl⟩⟩; refine ⟨_, rfl, ?_⟩; have hcz36_0 := bc BK227 0 (.int .i64 a1_0); have hcz36_1 := bc BK227 1 (.int .i64 a1_1); have hcz36_2 := bc BK227 2 (.int .i64 a1_2); have hcz36_3 := bc BK227 3 (.int .i64 a1_3); have hfz36_0 := blk_frozen BK227.out 0; have hfz36_1 := blk_frozen BK227.out 1; have hfz36_2 := blk_frozen BK227.out 2; have hfz36_3 := blk_frozen BK227.out 3))
      go_ret
      exact ⟨rs, bw⟩
    ·rw [if_neg c27] at H
     have c27b0 : (a1_0 == 2) = false := beq_eq_false_iff_ne.mpr c27
     have c27b1 : (a1_0 != 2) = true := bne_iff_ne.mpr c27
     by_cases c37 : a1_0 = 3
     ·rw [if_pos c37] at H
      have c37b0 : (a1_0 == 3) = true := beq_iff_eq.mpr c37
      have c37b1 : (a1_0 != 3) = false := bne_eq_false_iff_eq.mpr c37
      clear c37
      by_cases c38 : a1_1 = 0
      ·rw [if_pos c38] at H
       have c38b0 : (a1_1 == 0) = true := beq_iff_eq.mpr c38
       have c38b1 : (a1_1 != 0) = false := bne_eq_false_iff_eq.mpr c38
       clear c38
       by_cases c39 : a1_2 = 0
       ·rw [if_pos c39] at H
        have c39b0 : (a1_2 == 0) = true := beq_iff_eq.mpr c39
        have c39b1 : (a1_2 != 0) = false := bne_eq_false_iff_eq.mpr c39
        clear c39
        replace H := Option.bind_eq_some_iff.mp H
        obtain ⟨t234, A400, H⟩ := H
        (try dsimp only at H)
        have A40 := Aside0.mk A400
        clear A400
        obtain rfl := Option.some.inj H
        go_enter Tryd.func59, Tryd.ntmps59
        go_wp2_with (first | ((with_reducible refine gate_dst (N := 3) rfl ?_); refine bx 3 33 #[.int .i64 a1_0, .int .i64 a1_1, .int .i64 a1_2, .int .i64 a1_3] ?_; intro gb227 hg w41 hbox hb; have BK227 := hbox; have GW227 := gs hg; have GE227 := gs hg; replace HB := bs hb; clear hb hbox hg) | ((with_reducible refine gate_callee (f := 64) rfl ?_); refine gl (some 6) Tryd.func64 #[.int .i64 a0] ?_; (with_reducible refine (impl_isHidden.calls a0 true _ A3.out).mono ?_); rintro e w' ⟨rfl, ⟨nd, rfl⟩⟩; refine ⟨_, rfl, ?_⟩; have hcz42_0 := bc BK227 0 (.int .i64 a1_0); have hcz42_1 := bc BK227 1 (.int .i64 a1_1); have hcz42_2 := bc BK227 2 (.int .i64 a1_2); have hcz42_3 := bc BK227 3 (.int .i64 a1_3); have hfz42_0 := blk_frozen BK227.out 0; have hfz42_1 := blk_frozen BK227.out 1; have hfz42_2 := blk_frozen BK227.out 2; have hfz42_3 := blk_frozen BK227.out 3) | (go_at_call 65; (with_reducible refine (impl_in.calls a1_3 0 8 t234 _ A40.out).mono ?_); rintro e w' ⟨rfl, ⟨nd, rfl⟩⟩))
        go_ret
        exact ⟨rs, bw⟩
       ·rw [if_neg c39] at H
        have c39b0 : (a1_2 == 0) = false := beq_eq_false_iff_ne.mpr c39
        have c39b1 : (a1_2 != 0) = true := bne_iff_ne.mpr c39
        obtain rfl := Option.some.inj H
        go_enter Tryd.func59, Tryd.ntmps59
        go_wp2_with (first | ((with_reducible refine gate_dst (N := 3) rfl ?_); refine bx 3 33 #[.int .i64 a1_0, .int .i64 a1_1, .int .i64 a1_2, .int .i64 a1_3] ?_; intro gb227 hg w43 hbox hb; have BK227 := hbox; have GW227 := gs hg; have GE227 := gs hg; replace HB := bs hb; clear hb hbox hg) | ((with_reducible refine gate_callee (f := 64) rfl ?_); refine gl (some 6) Tryd.func64 #[.int .i64 a0] ?_; (with_reducible refine (impl_isHidden.calls a0 true _ A3.out).mono ?_); rintro e w' ⟨rfl, ⟨nd, rfl⟩⟩; refine ⟨_, rfl, ?_⟩; have hcz44_0 := bc BK227 0 (.int .i64 a1_0); have hcz44_1 := bc BK227 1 (.int .i64 a1_1); have hcz44_2 := bc BK227 2 (.int .i64 a1_2); have hcz44_3 := bc BK227 3 (.int .i64 a1_3); have hfz44_0 := blk_frozen BK227.out 0; have hfz44_1 := blk_frozen BK227.out 1; have hfz44_2 := blk_frozen BK227.out 2; have hfz44_3 := blk_frozen BK227.out 3))
        go_ret
        exact ⟨rs, bw⟩
      ·rw [if_neg c38] at H
       have c38b0 : (a1_1 == 0) = false := beq_eq_false_iff_ne.mpr c38
       have c38b1 : (a1_1 != 0) = true := bne_iff_ne.mpr c38
       obtain rfl := Option.some.inj H
       go_enter Tryd.func59, Tryd.ntmps59
       go_wp2_with (first | ((with_reducible refine gate_dst (N := 3) rfl ?_); refine bx 3 33 #[.int .i64 a1_0, .int .i64 a1_1, .int .i64 a1_2, .int .i64 a1_3] ?_; intro gb227 hg w45 hbox hb; have BK227 := hbox; have GW227 := gs hg; have GE227 := gs hg; replace HB := bs hb; clear hb hbox hg) | ((with_reducible refine gate_callee (f := 64) rfl ?_); refine gl (some 6) Tryd.func64 #[.int .i64 a0] ?_; (with_reducible refine (impl_isHidden.calls a0 true _ A3.out).mono ?_); rintro e w' ⟨rfl, ⟨nd, rfl⟩⟩; refine ⟨_, rfl, ?_⟩; have hcz46_0 := bc BK227 0 (.int .i64 a1_0); have hcz46_1 := bc BK227 1 (.int .i64 a1_1); have hcz46_2 := bc BK227 2 (.int .i64 a1_2); have hcz46_3 := bc BK227 3 (.int .i64 a1_3); have hfz46_0 := blk_frozen BK227.out 0; have hfz46_1 := blk_frozen BK227.out 1; have hfz46_2 := blk_frozen BK227.out 2; have hfz46_3 := blk_frozen BK227.out 3))
       go_ret
       exact ⟨rs, bw⟩
     ·rw [if_neg c37] at H
      have c37b0 : (a1_0 == 3) = false := beq_eq_false_iff_ne.mpr c37
      have c37b1 : (a1_0 != 3) = true := bne_iff_ne.mpr c37
      by_cases c47 : a1_0 = 4
      ·rw [if_pos c47] at H
       have c47b0 : (a1_0 == 4) = true := beq_iff_eq.mpr c47
       have c47b1 : (a1_0 != 4) = false := bne_eq_false_iff_eq.mpr c47
       clear c47
       replace H := Option.bind_eq_some_iff.mp H
       obtain ⟨t235, A480, H⟩ := H
       (try dsimp only at H)
       have A48 := Aside0.mk A480
       clear A480
       by_cases c49 : t235 = true
       ·subst c49
        rw [if_pos rfl] at H
        by_cases c50 : a1_2 = 0
        ·rw [if_pos c50] at H
         have c50b0 : (a1_2 == 0) = true := beq_iff_eq.mpr c50
         have c50b1 : (a1_2 != 0) = false := bne_eq_false_iff_eq.mpr c50
         clear c50
         replace H := Option.bind_eq_some_iff.mp H
         obtain ⟨t236, A510, H⟩ := H
         (try dsimp only at H)
         have A51 := Aside0.mk A510
         clear A510
         obtain rfl := Option.some.inj H
         go_enter Tryd.func59, Tryd.ntmps59
         go_wp2_with (first | ((with_reducible refine gate_dst (N := 3) rfl ?_); refine bx 3 33 #[.int .i64 a1_0, .int .i64 a1_1, .int .i64 a1_2, .int .i64 a1_3] ?_; intro gb227 hg w52 hbox hb; have BK227 := hbox; have GW227 := gs hg; have GE227 := gs hg; replace HB := bs hb; clear hb hbox hg) | ((with_reducible refine gate_callee (f := 64) rfl ?_); refine gl (some 6) Tryd.func64 #[.int .i64 a0] ?_; (with_reducible refine (impl_isHidden.calls a0 true _ A3.out).mono ?_); rintro e w' ⟨rfl, ⟨nd, rfl⟩⟩; refine ⟨_, rfl, ?_⟩; have hcz53_0 := bc BK227 0 (.int .i64 a1_0); have hcz53_1 := bc BK227 1 (.int .i64 a1_1); have hcz53_2 := bc BK227 2 (.int .i64 a1_2); have hcz53_3 := bc BK227 3 (.int .i64 a1_3); have hfz53_0 := blk_frozen BK227.out 0; have hfz53_1 := blk_frozen BK227.out 1; have hfz53_2 := blk_frozen BK227.out 2; have hfz53_3 := blk_frozen BK227.out 3) | ((with_reducible refine gate_callee (f := 65) rfl ?_); refine gl (some 79) Tryd.func65 #[.int .i64 a1_1, .int .i64 0, .int .i64 (wrap64 (a0 - 1))] ?_; (with_reducible refine (impl_in.calls a1_1 0 (wrap64 (a0 - 1)) true _ A48.out).mono ?_); rintro e w' ⟨rfl, ⟨nd, rfl⟩⟩; refine ⟨_, rfl, ?_⟩) | (go_at_call 65; (with_reducible refine (impl_in.calls a1_3 0 20 t236 _ A51.out).mono ?_); rintro e w' ⟨rfl, ⟨nd, rfl⟩⟩))
         go_ret
         exact ⟨rs, bw⟩
        ·rw [if_neg c50] at H
         have c50b0 : (a1_2 == 0) = false := beq_eq_false_iff_ne.mpr c50
         have c50b1 : (a1_2 != 0) = true := bne_iff_ne.mpr c50
         obtain rfl := Option.some.inj H
         go_enter Tryd.func59, Tryd.ntmps59
         go_wp2_with (first | ((with_reducible refine gate_dst (N := 3) rfl ?_); refine bx 3 33 #[.int .i64 a1_0, .int .i64 a1_1, .int .i64 a1_2, .int .i64 a1_3] ?_; intro gb227 hg w54 hbox hb; have BK227 := hbox; have GW227 := gs hg; have GE227 := gs hg; replace HB := bs hb; clear hb hbox hg) | ((with_reducible refine gate_callee (f := 64) rfl ?_); refine gl (some 6) Tryd.func64 #[.int .i64 a0] ?_; (with_reducible refine (impl_isHidden.calls a0 true _ A3.out).mono ?_); rintro e w' ⟨rfl, ⟨nd, rfl⟩⟩; refine ⟨_, rfl, ?_⟩; have hcz55_0 := bc BK227 0 (.int .i64 a1_0); have hcz55_1 := bc BK227 1 (.int .i64 a1_1); have hcz55_2 := bc BK227 2 (.int .i64 a1_2); have hcz55_3 := bc BK227 3 (.int .i64 a1_3); have hfz55_0 := blk_frozen BK227.out 0; have hfz55_1 := blk_frozen BK227.out 1; have hfz55_2 := blk_frozen BK227.out 2; have hfz55_3 := blk_frozen BK227.out 3) | ((with_reducible refine gate_callee (f := 65) rfl ?_); refine gl (some 79) Tryd.func65 #[.int .i64 a1_1, .int .i64 0, .int .i64 (wrap64 (a0 - 1))] ?_; (with_reducible refine (impl_in.calls a1_1 0 (wrap64 (a0 - 1)) true _ A48.out).mono ?_); rintro e w' ⟨rfl, ⟨nd, rfl⟩⟩; refine ⟨_, rfl, ?_⟩))
         go_ret
         exact ⟨rs, bw⟩
       ·replace c49 := Bool.eq_false_iff.mpr c49
        subst c49
        rw [if_neg (show ¬ (false = true) by decide)] at H
        obtain rfl := Option.some.inj H
        go_enter Tryd.func59, Tryd.ntmps59
        go_wp2_with (first | ((with_reducible refine gate_dst (N := 3) rfl ?_); refine bx 3 33 #[.int .i64 a1_0, .int .i64 a1_1, .int .i64 a1_2, .int .i64 a1_3] ?_; intro gb227 hg w56 hbox hb; have BK227 := hbox; have GW227 := gs hg; have GE227 := gs hg; replace HB := bs hb; clear hb hbox hg) | ((with_reducible refine gate_callee (f := 64) rfl ?_); refine gl (some 6) Tryd.func64 #[.int .i64 a0] ?_; (with_reducible refine (impl_isHidden.calls a0 true _ A3.out).mono ?_); rintro e w' ⟨rfl, ⟨nd, rfl⟩⟩; refine ⟨_, rfl, ?_⟩; have hcz57_0 := bc BK227 0 (.int .i64 a1_0); have hcz57_1 := bc BK227 1 (.int .i64 a1_1); have hcz57_2 := bc BK227 2 (.int .i64 a1_2); have hcz57_3 := bc BK227 3 (.int .i64 a1_3); have hfz57_0 := blk_frozen BK227.out 0; have hfz57_1 := blk_frozen BK227.out 1; have hfz57_2 := blk_frozen BK227.out 2; have hfz57_3 := blk_frozen BK227.out 3) | ((with_reducible refine gate_callee (f := 65) rfl ?_); refine gl (some 79) Tryd.func65 #[.int .i64 a1_1, .int .i64 0, .int .i64 (wrap64 (a0 - 1))] ?_; (with_reducible refine (impl_in.calls a1_1 0 (wrap64 (a0 - 1)) false _ A48.out).mono ?_); rintro e w' ⟨rfl, ⟨nd, rfl⟩⟩; refine ⟨_, rfl, ?_⟩))
        go_ret
        exact ⟨rs, bw⟩
      ·rw [if_neg c47] at H
       have c47b0 : (a1_0 == 4) = false := beq_eq_false_iff_ne.mpr c47
       have c47b1 : (a1_0 != 4) = true := bne_iff_ne.mpr c47
       obtain rfl := Option.some.inj H
       go_enter Tryd.func59, Tryd.ntmps59
       go_wp2_with (first | ((with_reducible refine gate_dst (N := 3) rfl ?_); refine bx 3 33 #[.int .i64 a1_0, .int .i64 a1_1, .int .i64 a1_2, .int .i64 a1_3] ?_; intro gb227 hg w58 hbox hb; have BK227 := hbox; have GW227 := gs hg; have GE227 := gs hg; replace HB := bs hb; clear hb hbox hg) | ((with_reducible refine gate_callee (f := 64) rfl ?_); refine gl (some 6) Tryd.func64 #[.int .i64 a0] ?_; (with_reducible refine (impl_isHidden.calls a0 true _ A3.out).mono ?_); rintro e w' ⟨rfl, ⟨nd, rfl⟩⟩; refine ⟨_, rfl, ?_⟩; have hcz59_0 := bc BK227 0 (.int .i64 a1_0); have hcz59_1 := bc BK227 1 (.int .i64 a1_1); have hcz59_2 := bc BK227 2 (.int .i64 a1_2); have hcz59_3 := bc BK227 3 (.int .i64 a1_3); have hfz59_0 := blk_frozen BK227.out 0; have hfz59_1 := blk_frozen BK227.out 1; have hfz59_2 := blk_frozen BK227.out 2; have hfz59_3 := blk_frozen BK227.out 3))
       go_ret
       exact ⟨rs, bw⟩
 ·replace c4 := Bool.eq_false_iff.mpr c4
  subst c4
  rw [if_neg (show ¬ (false = true) by decide)] at H
  obtain rfl := Option.some.inj H
  go_enter Tryd.func59, Tryd.ntmps59
  go_wp2_with (first | ((with_reducible refine gate_dst (N := 3) rfl ?_); refine bx 3 33 #[.int .i64 a1_0, .int .i64 a1_1, .int .i64 a1_2, .int .i64 a1_3] ?_; intro gb227 hg w60 hbox hb; have BK227 := hbox; have GW227 := gs hg; have GE227 := gs hg; replace HB := bs hb; clear hb hbox hg) | ((with_reducible refine gate_callee (f := 64) rfl ?_); refine gl (some 6) Tryd.func64 #[.int .i64 a0] ?_; (with_reducible refine (impl_isHidden.calls a0 false _ A3.out).mono ?_); rintro e w' ⟨rfl, ⟨nd, rfl⟩⟩; refine ⟨_, rfl, ?_⟩))
  go_ret
  exact ⟨rs, bw⟩

end Go.Proofs.YtmindeeacfdonaaDoor.PFnExactNeedlessClues
