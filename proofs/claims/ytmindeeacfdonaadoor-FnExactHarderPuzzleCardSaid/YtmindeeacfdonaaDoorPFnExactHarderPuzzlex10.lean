-- Laid by xprint, a program of this session that runs over the kit's print.
import Derived.Test.YtmindeeacfdonaaDoorPFnExactHarderPuzzlex0
import Derived.Test.YtmindeeacfdonaaDoorPFnExactHarderPuzzlex9
namespace Go.Proofs.YtmindeeacfdonaaDoor.PFnExactHarderPuzzle
open Go.RowKit Go.Proofs.YtmindeeacfdonaaDoorW.PrintWords Go.Proofs.YtmindeeacfdonaaDoorW.PrintLast Go.Proofs.YtmindeeacfdonaaDoorW.PrintMore Go.Proofs.YtmindeeacfdonaaDoor.Sq
attribute [local go_sem] max2_int min2_int max_two min_two max_three min_three max_four min_four   -- for this text's walks alone
set_option linter.unusedVariables false
set_option linter.unusedSimpArgs false

/-! ### impl_HarderPuzzle: function 52 -/
def impl_HarderPuzzle.l0 : Nat → Int → Int → List (S33) → Int → List (S33) → Option (Int × (List (S33)) × Bool)
  | 0, _, _, _, _, _ => none
  | k + 1, x7, x291000, x291001, x298000, x298001 => if x7 < (x298001.length : Int) then ((impl_without.f x298001 x7).bind fun t298 => ((impl_solutions.f k x291000 t298).bind fun t301 => (if (t301.length : Int) = 1 then (impl_HarderPuzzle.l0 k x7 x291000 x291001 x298000 t298) else (impl_HarderPuzzle.l0 k (wrap64 (x7 + 1)) x291000 x291001 x298000 x298001)))) else (some (x298000, x298001, true))
def impl_HarderPuzzle.f (k : Nat) (a0_0 : Int) (l0_1 : List (S33)) : Option (Int × (List (S33)) × Bool) := (impl_IsSolved.f k a0_0 l0_1).bind fun bt292 => (if bt292.1 = true then ((impl_Clue.f l0_1).bind fun t294 => (impl_HarderPuzzle.l0 k 0 a0_0 l0_1 a0_0 t294)) else (some (0, ([] : List (S33)), false)))
theorem impl_HarderPuzzle.mono_l : ∀ k, (∀ y0 y1 y2 y3 y4, LeO (impl_HarderPuzzle.l0 k y0 y1 y2 y3 y4) (impl_HarderPuzzle.l0 (k + 1) y0 y1 y2 y3 y4))
  | 0 => fun _ _ _ _ _ r h => by simp [impl_HarderPuzzle.l0] at h
  | k + 1 => by
    have ih0 := impl_HarderPuzzle.mono_l k
    · intro y0 y1 y2 y3 y4
      unfold impl_HarderPuzzle.l0
      repeat' first
      | (with_reducible exact ih0 _ _ _ _ _)
      | (with_reducible exact impl_IsSolved.mono _ _ _)
      | (with_reducible exact impl_solutions.mono _ _ _)
      | (with_reducible exact LeO.refl _)
      | (with_reducible exact LeO.none _)
      | (with_reducible refine LeO.ite ?_ ?_)
      | (with_reducible refine LeO.bind ?_ (fun _ => ?_))
      | exact ih0 _ _ _ _ _
      | exact impl_IsSolved.mono _ _ _
      | exact impl_solutions.mono _ _ _
      | exact LeO.none _
      | refine LeO.ite ?_ ?_
      | refine LeO.bind ?_ (fun _ => ?_)
theorem impl_HarderPuzzle.mono : ∀ a0 a1 k, LeO (impl_HarderPuzzle.f k a0 a1) (impl_HarderPuzzle.f (k + 1) a0 a1) := by
  intro a0 a1 k
  have ih0 := impl_HarderPuzzle.mono_l k
  unfold impl_HarderPuzzle.f
  repeat' first
      | (with_reducible exact ih0 _ _ _ _ _)
      | (with_reducible exact impl_IsSolved.mono _ _ _)
      | (with_reducible exact impl_solutions.mono _ _ _)
      | (with_reducible exact LeO.refl _)
      | (with_reducible exact LeO.none _)
      | (with_reducible refine LeO.ite ?_ ?_)
      | (with_reducible refine LeO.bind ?_ (fun _ => ?_))
      | exact ih0 _ _ _ _ _
      | exact impl_IsSolved.mono _ _ _
      | exact impl_solutions.mono _ _ _
      | exact LeO.none _
      | refine LeO.ite ?_ ?_
      | refine LeO.bind ?_ (fun _ => ?_)
def impl_HarderPuzzle.T4 : Bool × List (List Nat × List Nat) := (true, [([], []), ([0], [0]), ([], []), ([2], [2]), ([3], [3]), ([1, 4], [1, 4]), ([], []), ([6, 5, 4, 0, 1, 2, 3, 4, 5, 6], [5, 6])])
def impl_HarderPuzzle.B4 : List Nat := [0, 1, 0, 4, 12, 31, 0, 127]
theorem impl_HarderPuzzle.tab4 : rtab .any (opsOf Tryd.f52 4) = impl_HarderPuzzle.T4 := by kernel_rfl
theorem impl_HarderPuzzle.bits4 : waitsOk impl_HarderPuzzle.T4.2 impl_HarderPuzzle.B4 = true := by kernel_rfl
set_option maxHeartbeats 8000000 in
set_option maxRecDepth 100000 in
theorem impl_HarderPuzzle.calls (k : Nat) (a0_0 : Int) (A0_1 : Option Addr) (c0_1 : Nat) (l0_1 : List (S33)) (r1 : Int) (r2 : List (S33)) (r3 : Bool) (w : World) (hm : Dr.Tab w) (hr0_1 : Kd.C k33 w A0_1 l0_1.length l0_1) (hc0_1 : l0_1.length ≤ c0_1) (h : impl_HarderPuzzle.f k a0_0 l0_1 = some (r1, r2, r3)) :
  Calls Tryd.prog 52 #[.agg #[.int .i64 a0_0, .slice A0_1 l0_1.length c0_1]] w fun e w' => ∃ v1_ : Value, e = .returned (.tuple #[.agg #[.int .i64 r1, v1_], .bool r3]) ∧ Kd.R k33 33 w' w.heap.size (fun _ => True) v1_ r2 ∧ Below w.heap.size w w' := by
 have hu38 := Tryd.underlying38
 have HR0_1 := Aside0.mk hr0_1
 have HC0_1 := Aside0.mk hc0_1
 clear hr0_1 hc0_1
 have HB := Aside0.mk (Below.refl w.heap.size w)
 have HMM := Aside0.mk hm
 clear hm
 unfold impl_HarderPuzzle.f at h
 have H := h
 clear h
 replace H := Option.bind_eq_some_iff.mp H
 obtain ⟨⟨t292, t293⟩, A20, H⟩ := H
 (try dsimp only at H)
 have A2 := Aside0.mk A20
 clear A20
 by_cases c3 : t292 = true
 ·subst c3
  rw [if_pos rfl] at H
  replace H := Option.bind_eq_some_iff.mp H
  obtain ⟨t294, A40, H⟩ := H
  (try dsimp only at H)
  have A4 := Aside0.mk A40
  clear A40
  have H' := Aside0.mk H
  clear H
  go_enter Tryd.func52, Tryd.ntmps52
  try go_wp2_with (first | ((with_reducible refine gate_dst (N := 1) rfl ?_); refine bx 1 38 #[.int .i64 a0_0, .slice A0_1 l0_1.length c0_1] ?_; intro gb290 hg w5 hbox hb; have BK290 := hbox; have GW290 := gs hg; have GE290 := gs hg; replace HB := bs hb; clear hb hbox hg) | ((with_reducible refine gate_dst (N := 2) rfl ?_); refine bx 2 38 #[.int .i64 0, .slice none 0 0] ?_; intro gb291 hg w6 hbox hb; have BK291 := hbox; have GW291 := gs hg; have GE291 := gs hg; replace HB := bs hb; have NB290_291 := nl BK290 hg; have NB291_290 := ng BK290 hg; replace BK290 := nk BK290 hb; clear hb hbox hg; have hnb7 := NB290_291.out; have hnc7 := NB291_290.out; have hcz8_0 := bc BK290 0 (.int .i64 a0_0); have hcz8_1 := bc BK290 1 (.slice A0_1 l0_1.length c0_1); have hfz8_0 := blk_frozen BK290.out 0; have hfz8_1 := blk_frozen BK290.out 1) | ((with_reducible refine gate_callee (f := 32) rfl ?_); refine gl (some 11) Tryd.func32 #[.agg #[.int .i64 a0_0, .slice A0_1 l0_1.length c0_1]] ?_; (with_reducible refine (impl_IsSolved.calls k a0_0 _ _ l0_1 true t293 _ ?side1 ?side2 ?side3 A2.out).mono ?_); (case side1 => first | exact HMM.out | exact Dr.Tab.below HMM.out bw | (repeat (first | exact HMM.out | apply Dr.Tab.drewN | apply Dr.Tab.drew | apply Dr.Tab.alloc))); (case side2 => repeat (first | exact (Kd.C_below HR0_1.out HB.out) | (with_reducible refine Kd.C_alloc ?_ _) | (with_reducible refine Kd.C_drewN ?_ _) | (with_reducible refine Kd.C_drew ?_))); (case side3 => exact HC0_1.out); rintro e w9 ⟨rfl, hb⟩; refine ⟨_, rfl, ?_⟩; replace BK290 := nk BK290 hb; replace BK291 := nk BK291 hb; replace HB := bs hb; (try clear hb)))
  replace BK290 := Aside0.mk (blk_drew BK290.out)
  replace BK291 := Aside0.mk (blk_drew BK291.out)
  replace HB := Aside0.mk (below_drew1 HB.out)
  refine start_ (n := 8) (S := fun w' => w'.cell? ⟨gb290, 0, none⟩ = some (.int .i64 a0_0) ∧ w'.cell? ⟨gb290, 1, none⟩ = some (.slice A0_1 l0_1.length c0_1)) (ds := []) #[false, false, false, false, false, false, false, false] (by kernel_rfl) rfl rfl ⟨ec BK290, ec BK290⟩ (fun hHeld => ?_); refine with_tabW impl_HarderPuzzle.tab4 impl_HarderPuzzle.bits4 (fun HT_ HW_ => ?_)
  generalize w9.drew = w10 at BK290 BK291 HB hHeld ⊢
  refine pu 0 (some 17) #[true, false, false, false, false, false, false, false] ?_
  refine pu 2 (some 19) #[true, false, true, false, false, false, false, false] ?_
  refine take_ (i := 1) (N := some 18) (v := ?_) (a' := ?_) #[true, true, true, false, false, false, false, false] rfl rfl (take_ofW HT_.out HW_.out (by kernel_rfl)) (fun _ _ _ h => h) (Or.inl ⟨by rfl, ?_⟩) hHeld ?_ ?_
  rotate_left
  ·rintro w' ⟨s0, s1⟩
   go_simp
   with_reducible rfl
  rotate_left
  ·simp only [Act.put, List.setIfInBounds_toArray, List.set_cons_zero, List.set_cons_succ, i64_w, i32_w]
   rfl
  refine take_ (i := 3) (N := some 20) (v := ?_) (a' := ?_) #[true, true, true, true, false, false, false, false] rfl rfl (take_ofW HT_.out HW_.out (by kernel_rfl)) (fun _ _ _ h => h) (Or.inl ⟨by rfl, ?_⟩) hHeld ?_ ?_
  rotate_left
  ·rintro w' ⟨s0, s1⟩
   go_simp
   with_reducible rfl
  rotate_left
  ·simp only [Act.put, List.setIfInBounds_toArray, List.set_cons_zero, List.set_cons_succ, i64_w, i32_w]
   rfl
  refine join_ (σ := Value × Nat) 1 #[true, true, true, true, true, true, true, false] (fun s_ => [(21, s_.1), (6, .pointer (some ⟨s_.2, 0, none⟩)), (22, .agg #[.int .i64 a0_0, s_.1])]) (fun s_ w' => (w'.cell? ⟨gb290, 0, none⟩ = some (.int .i64 a0_0) ∧ w'.cell? ⟨gb290, 1, none⟩ = some (.slice A0_1 l0_1.length c0_1)) ∧ (Kd.R k33 33 w' w.heap.size (fun _ => True) s_.1 t294) ∧ (w'.heap[gb290]? = some (.cells #[.int .i64 a0_0, .slice A0_1 l0_1.length c0_1] 38 (0, 0))) ∧ (w'.heap[gb291]? = some (.cells #[.int .i64 0, .slice none 0 0] 38 (0, 0))) ∧ (w'.heap[s_.2]? = some (.cells #[.int .i64 0, .slice none 0 0] 38 (0, 0))) ∧ (w.heap.size ≤ s_.2) ∧ (w.heap.size ≤ s_.2) ∧ (gb290 ≠ s_.2) ∧ (s_.2 ≠ gb290) ∧ (gb291 ≠ s_.2) ∧ (s_.2 ≠ gb291) ∧ (Below w.heap.size w w')) ?_ ?_
  rotate_left
  ·intro hCont
   refine two_ (i := 4) (j := 6) (Ni := some 21) (Nj := some 6) #[true, true, true, true, true, false, false, false] #[true, true, true, true, false, false, true, false] rfl rfl rfl rfl (two_of HT_.out (by kernel_rfl)) (by decide) (by decide) (fun K hK => ?_) (fun K hK => ?_)
   ·skip
    refine goes_ Tryd.func81 (by kernel_rfl) rfl #[.slice A0_1 l0_1.length c0_1] (by rfl) rfl rfl (by (try simp only [List.map_toArray, List.map_cons, List.map_nil]); first | done | rfl | (simp only [List.length_drop, List.length_take]; rfl)) ?_
    with_reducible refine (impl_Clue.calls _ _ l0_1 t294 _ ?side1 ?side2 A4.out).mono ?_
    (case side1 => repeat (first | exact (Kd.C_below HR0_1.out HB.out) | (with_reducible refine Kd.C_alloc ?_ _) | (with_reducible refine Kd.C_drewN ?_ _) | (with_reducible refine Kd.C_drew ?_)))
    (case side2 => exact HC0_1.out)
    rintro e w11 ⟨v295, rfl, ho0, hb⟩
    refine ⟨_, rfl, ?_⟩
    have HO296 := Aside0.mk (Kd.R_lower ho0 (below_size bw))
    replace BK290 := nk BK290 hb
    replace BK291 := nk BK291 hb
    replace HB := bs hb
    (try clear hb)
    (try clear ho0)
    obtain ⟨Ao12, co12, eo12⟩ := Kd.R_slice HO296.out
    (first | subst eo12 | (injection eo12 with f1_ f2_ f3_; have f4_ := f1_.symm; have f5_ := f3_.symm; clear f1_ f2_ f3_; subst f4_; subst f5_))
    refine hK.out _ _ ⟨ec BK290, ec BK290⟩ (fun hHeld => ?_)
    clear hK K
    refine nm (some 21) ?_
    refine pu 5 (some 22) #[true, true, true, true, true, true, false, false] ?_
    refine one_ (i := 6) (N := some 6) #[true, true, true, true, true, true, true, false] rfl rfl (one_of HT_.out (by kernel_rfl)) (by decide) (fun K hK => ?_)
    refine box_step ?hg (N := 6) ?hd (cs := #[.int .i64 0, .slice none 0 0]) (t := 38) ?hr ?_; (case hd => rfl); (case hg => rfl); (case hr => first | (go_simp; done) | (go_simp; rfl))
    intro gb297 hg w13 hbox hb
    replace HO296 := Aside0.mk (Kd.R_below (pr HO296) hb)
    have BK297 := Aside0.mk (hbox)
    have GW297 := gs hg
    have GE297 := gs hg
    replace HB := bs hb
    have NB290_297 := nl BK290 hg
    have NB297_290 := ng BK290 hg
    replace BK290 := nk BK290 hb
    have NB291_297 := nl BK291 hg
    have NB297_291 := ng BK291 hg
    replace BK291 := nk BK291 hb
    clear hb hbox hg
    refine hK.out _ _ ⟨ec BK290, ec BK290⟩ (fun hHeld => ?_)
    clear hK K
    refine nm (some 6) ?_
    exact norm_ (by simp only [putAll, Act.put, List.setIfInBounds_toArray, List.set_cons_zero, List.set_cons_succ]) (hCont (.slice Ao12 t294.length co12, gb297) _ ⟨hHeld, (pr HO296), (pk BK290), (pk BK291), (pk BK297), GW297.out, GE297.out, NB290_297.out, NB297_290.out, NB291_297.out, NB297_291.out, bw⟩)
   ·skip
    refine box_step ?hg (N := 6) ?hd (cs := #[.int .i64 0, .slice none 0 0]) (t := 38) ?hr ?_; (case hd => rfl); (case hg => rfl); (case hr => first | (go_simp; done) | (go_simp; rfl))
    intro gb297 hg w11 hbox hb
    have BK297 := Aside0.mk (hbox)
    have GW297 := gs hg
    have GE297 := gs hg
    replace HB := bs hb
    have NB290_297 := nl BK290 hg
    have NB297_290 := ng BK290 hg
    replace BK290 := nk BK290 hb
    have NB291_297 := nl BK291 hg
    have NB297_291 := ng BK291 hg
    replace BK291 := nk BK291 hb
    clear hb hbox hg
    refine hK.out _ _ ⟨ec BK290, ec BK290⟩ (fun hHeld => ?_)
    clear hK K
    refine nm (some 6) ?_
    refine one_ (i := 4) (N := some 21) #[true, true, true, true, true, false, true, false] rfl rfl (one_of HT_.out (by kernel_rfl)) (by decide) (fun K hK => ?_)
    refine goes_ Tryd.func81 (by kernel_rfl) rfl #[.slice A0_1 l0_1.length c0_1] (by rfl) rfl rfl (by (try simp only [List.map_toArray, List.map_cons, List.map_nil]); first | done | rfl | (simp only [List.length_drop, List.length_take]; rfl)) ?_
    with_reducible refine (impl_Clue.calls _ _ l0_1 t294 _ ?side1 ?side2 A4.out).mono ?_
    (case side1 => repeat (first | exact (Kd.C_below HR0_1.out HB.out) | (with_reducible refine Kd.C_alloc ?_ _) | (with_reducible refine Kd.C_drewN ?_ _) | (with_reducible refine Kd.C_drew ?_)))
    (case side2 => exact HC0_1.out)
    rintro e w12 ⟨v295, rfl, ho0, hb⟩
    refine ⟨_, rfl, ?_⟩
    have HO296 := Aside0.mk (Kd.R_lower ho0 (below_size bw))
    replace BK290 := nk BK290 hb
    replace BK291 := nk BK291 hb
    replace BK297 := nk BK297 hb
    replace HB := bs hb
    (try clear hb)
    (try clear ho0)
    obtain ⟨Ao13, co13, eo13⟩ := Kd.R_slice HO296.out
    (first | subst eo13 | (injection eo13 with f1_ f2_ f3_; have f4_ := f1_.symm; have f5_ := f3_.symm; clear f1_ f2_ f3_; subst f4_; subst f5_))
    refine hK.out _ _ ⟨ec BK290, ec BK290⟩ (fun hHeld => ?_)
    clear hK K
    refine nm (some 21) ?_
    refine pu 5 (some 22) #[true, true, true, true, true, true, true, false] ?_
    exact norm_ (by simp only [putAll, Act.put, List.setIfInBounds_toArray, List.set_cons_zero, List.set_cons_succ]) (hCont (.slice Ao13 t294.length co13, gb297) _ ⟨hHeld, (pr HO296), (pk BK290), (pk BK291), (pk BK297), GW297.out, GE297.out, NB290_297.out, NB297_290.out, NB291_297.out, NB297_291.out, bw⟩)
  rintro ⟨v295, gb297⟩ w14 ⟨hS_, h0_, h1_, h2_, h3_, h4_, h5_, h6_, h7_, h8_, h9_, h10_⟩
  have n0_ : Aside0 (Kd.R k33 33 w14 w.heap.size (fun _ => True) v295 t294) := ⟨h0_⟩
  have n1_ : Aside0 (w14.heap[gb290]? = some (.cells #[.int .i64 a0_0, .slice A0_1 l0_1.length c0_1] 38 (0, 0))) := ⟨h1_⟩
  have n2_ : Aside0 (w14.heap[gb291]? = some (.cells #[.int .i64 0, .slice none 0 0] 38 (0, 0))) := ⟨h2_⟩
  have n3_ : Aside0 (w14.heap[gb297]? = some (.cells #[.int .i64 0, .slice none 0 0] 38 (0, 0))) := ⟨h3_⟩
  have n4_ : Aside0 (w.heap.size ≤ gb297) := ⟨h4_⟩
  have n5_ : Aside0 (w.heap.size ≤ gb297) := ⟨h5_⟩
  have n6_ : Aside0 (gb290 ≠ gb297) := ⟨h6_⟩
  have n7_ : Aside0 (gb297 ≠ gb290) := ⟨h7_⟩
  have n8_ : Aside0 (gb291 ≠ gb297) := ⟨h8_⟩
  have n9_ : Aside0 (gb297 ≠ gb291) := ⟨h9_⟩
  have n10_ : Aside0 (Below w.heap.size w w14) := ⟨h10_⟩
  clear BK290
  clear BK291
  clear HB
  clear h0_ h1_ h2_ h3_ h4_ h5_ h6_ h7_ h8_ h9_ h10_
  have HO296 := n0_
  have BK290 := n1_
  have BK291 := n2_
  have BK297 := n3_
  have GW297 := n4_
  have GE297 := n5_
  have NB290_297 := n6_
  have NB297_290 := n7_
  have NB291_297 := n8_
  have NB297_291 := n9_
  have HB := n10_
  clear n0_ n1_ n2_ n3_ n4_ n5_ n6_ n7_ n8_ n9_ n10_
  have hHeld : w14.cell? ⟨gb290, 0, none⟩ = some (.int .i64 a0_0) ∧ w14.cell? ⟨gb290, 1, none⟩ = some (.slice A0_1 l0_1.length c0_1) := hS_
  obtain ⟨Ao15, co15, eo15⟩ := Kd.R_slice HO296.out
  (first | subst eo15 | (injection eo15 with f1_ f2_ f3_; have f4_ := f1_.symm; have f5_ := f3_.symm; clear f1_ f2_ f3_; subst f4_; subst f5_))
  refine norm_ (a' := ?_) ?_ ?_
  rotate_left
  ·simp only [putAll, Act.put, List.setIfInBounds_toArray, List.set_cons_zero, List.set_cons_succ]
   rfl
  refine one_ (i := 7) (N := none) #[true, true, true, true, true, true, true, true] rfl rfl (one_of HT_.out (by kernel_rfl)) (by decide) (fun K hK => ?_)
  have hs16 : w14.cell? ⟨gb297, 0, none⟩ = some (.int .i64 0) := ec BK297
  have hfs16 := blk_frozen BK297.out 0
  have hns16_0 := NB290_297.out
  have hns16_1 := NB291_297.out
  have hms16_0 := NB297_290.out
  have hms16_1 := NB297_291.out
  have hs17 : w14.cell? ⟨gb297, 1, none⟩ = some (.slice none 0 0) := ec BK297
  have hfs17 := blk_frozen BK297.out 1
  have hns17_0 := NB290_297.out
  have hns17_1 := NB291_297.out
  have hms17_0 := NB297_290.out
  have hms17_1 := NB297_291.out
  refine skip_ (w1 := ?_) (by rfl) rfl ?_ ?_
  rotate_left
  ·go_simp
   rfl
  refine hK.out _ _ ⟨((cell_far (p := ⟨gb297, _, none⟩) NB290_297.out _).trans (((cell_far (p := ⟨gb297, _, none⟩) NB290_297.out _).trans (hHeld.1)))), ((cell_far (p := ⟨gb297, _, none⟩) NB290_297.out _).trans (((cell_far (p := ⟨gb297, _, none⟩) NB290_297.out _).trans (hHeld.2))))⟩ (fun hHeld => ?_)
  clear hK K
  refine done_ (done_of HT_.out (by kernel_rfl)) ?_
  try go_wp2
  go_loopg [7] k (fun kq v7 w' => ∃ (x7_1 : Int) (x298001_1 : List (S33)) (u298001 : Value), v7 = .int .i64 x7_1 ∧ Aside0 (impl_HarderPuzzle.l0 kq x7_1 a0_0 l0_1 a0_0 x298001_1 = some (r1, r2, r3)) ∧ Aside0 (kq ≤ k) ∧ Aside0 (Kd.R k33 33 w' w.heap.size (fun _ => True) u298001 x298001_1) ∧ Aside0 (w'.heap[gb290]? = some (.cells #[.int .i64 a0_0, (.slice A0_1 l0_1.length c0_1)] 38 (0, 0))) ∧ Aside0 (w'.heap[gb291]? = some (.cells #[.int .i64 0, (.slice none 0 0)] 38 (0, 0))) ∧ Aside0 (w'.heap[gb297]? = some (.cells #[.int .i64 a0_0, u298001] 38 (0, 0))) ∧ Aside0 (Below w.heap.size w w'))
  case atStart => exact ⟨(0), (t294), (.slice Ao15 t294.length co15), (rs), H', ⟨Nat.le_refl _⟩, ⟨by (with_reducible repeat (first | apply Kd.R_alloc | apply Kd.R_drewN | apply Kd.R_drew)); exact Kd.R_mono (Kd.R_far (p := ⟨gb297, 1, none⟩) (Kd.R_far (p := ⟨gb297, 0, none⟩) (Kd.R_types HO296.out BK297.out (by decide)) (fun _ hk => hk.2) (.int .i64 a0_0)) (fun _ hk => hk.2) (.slice Ao15 t294.length co15)) (fun _ hk => trivial)⟩, ⟨by (with_reducible repeat (first | refine blk_drewN ?_ _ | refine blk_drew ?_ | refine blk_alloc ?_ _)); refine blk_far ?_ NB290_297.out _; (with_reducible repeat (first | refine blk_drewN ?_ _ | refine blk_drew ?_ | refine blk_alloc ?_ _)); refine blk_far ?_ NB290_297.out _; (with_reducible repeat (first | refine blk_drewN ?_ _ | refine blk_drew ?_ | refine blk_alloc ?_ _)); exact BK290.out⟩, ⟨by (with_reducible repeat (first | refine blk_drewN ?_ _ | refine blk_drew ?_ | refine blk_alloc ?_ _)); refine blk_far ?_ NB291_297.out _; (with_reducible repeat (first | refine blk_drewN ?_ _ | refine blk_drew ?_ | refine blk_alloc ?_ _)); refine blk_far ?_ NB291_297.out _; (with_reducible repeat (first | refine blk_drewN ?_ _ | refine blk_drew ?_ | refine blk_alloc ?_ _)); exact BK291.out⟩, ⟨by (with_reducible repeat (first | refine blk_drewN ?_ _ | refine blk_drew ?_ | refine blk_alloc ?_ _)); refine blk_put (cs := #[.int .i64 a0_0, .slice none 0 0]) ?_ 1 _ rfl; (with_reducible repeat (first | refine blk_drewN ?_ _ | refine blk_drew ?_ | refine blk_alloc ?_ _)); refine blk_put (cs := #[.int .i64 0, .slice none 0 0]) ?_ 0 _ rfl; (with_reducible repeat (first | refine blk_drewN ?_ _ | refine blk_drew ?_ | refine blk_alloc ?_ _)); exact BK297.out⟩, ⟨bw⟩⟩
  case round =>
   clear H'
   try clear p2
   try clear c3
   try clear c5
   try clear c7
   try clear c8
   try clear hcz8_0
   try clear hcz8_1
   try clear hfz8_0
   try clear hfz8_1
   obtain ⟨x7_1, x298001_1, u298001, rfl, HA, HK1, HO_298001, BK290, BK291, BK297, HB⟩ := hrel
   cases gk with
   | zero => exact absurd HA.out (by simp [impl_HarderPuzzle.l0])
   | succ k1 =>
    have H := HA.out
    clear HA
    simp only [impl_HarderPuzzle.l0] at H
    by_cases c18 : x7_1 < (x298001_1.length : Int)
    ·rw [if_pos c18] at H
     have c18b0 : decide (x7_1 < (x298001_1.length : Int)) = true := decide_eq_true c18
     clear c18
     replace H := Option.bind_eq_some_iff.mp H
     obtain ⟨t298, A190, H⟩ := H
     (try dsimp only at H)
     have A19 := Aside0.mk A190
     clear A190
     replace H := Option.bind_eq_some_iff.mp H
     obtain ⟨t301, A200, H⟩ := H
     (try dsimp only at H)
     have A20 := Aside0.mk A200
     clear A200
     by_cases c21 : (t301.length : Int) = 1
     ·rw [if_pos c21] at H
      have c21b0 : ((t301.length : Int) == 1) = true := beq_iff_eq.mpr c21
      have c21b1 : ((t301.length : Int) != 1) = false := bne_eq_false_iff_eq.mpr c21
      clear c21
      have H' := Aside0.mk H
      clear H
      have hnb22 := NB297_290.out
      have hnc22 := NB290_297.out
      have hnb23 := NB297_291.out
      have hnc23 := NB291_297.out
      have hcz24_0 : wr.cell? ⟨gb297, 0, none⟩ = some (.int .i64 a0_0) := ec BK297
      have hcz24_1 : wr.cell? ⟨gb297, 1, none⟩ = some (u298001) := ec BK297
      have hfz24_0 := blk_frozen BK297.out 0
      have hfz24_1 := blk_frozen BK297.out 1
      obtain ⟨Ao25, co25, eo25⟩ := Kd.R_slice HO_298001.out
      subst eo25
      go_wp2_with (first | ((with_reducible refine gate_callee (f := 80) rfl ?_); refine gl (some 31) Tryd.func80 #[.slice Ao25 x298001_1.length co25, .int .i64 x7_1] ?_; (with_reducible refine (impl_without.calls _ _ x298001_1 x7_1 t298 _ ?side1 ?side2 A19.out).mono ?_); (case side1 => repeat (first | exact (Kd.R_reads' HO_298001.out).2.2 | (with_reducible refine Kd.C_alloc ?_ _) | (with_reducible refine Kd.C_drewN ?_ _) | (with_reducible refine Kd.C_drew ?_))); (case side2 => exact (Kd.R_reads' HO_298001.out).2.1); rintro e w26 ⟨v299, rfl, ho0, hb⟩; refine ⟨_, rfl, ?_⟩; have HO300 := Aside0.mk (Kd.R_lower (Kd.R_new' ho0 (Kd.R_lt (pr HO_298001))) (below_size bw)); replace HO_298001 := Aside0.mk (Kd.R_elder' (pr HO_298001) (Kd.R_base ho0) hb); replace BK290 := nk BK290 hb; replace BK291 := nk BK291 hb; replace BK297 := nk BK297 hb; replace HB := bs hb; (try clear hb); (try clear ho0); have hnb27 := NB290_291.out; have hnc27 := NB291_290.out; have hcz28_0 := bc BK290 0 (.int .i64 a0_0); have hcz28_1 := bc BK290 1 (.slice A0_1 l0_1.length c0_1); have hfz28_0 := blk_frozen BK290.out 0; have hfz28_1 := blk_frozen BK290.out 1; obtain ⟨Ao29, co29, eo29⟩ := Kd.R_slice HO300.out; subst eo29) | ((with_reducible refine gate_callee (f := 77) rfl ?_); refine gl (some 35) Tryd.func77 #[.int .i64 a0_0, .slice Ao29 t298.length co29] ?_; (with_reducible refine (impl_solutions.calls k1 a0_0 _ _ t298 t301 _ ?side1 ?side2 ?side3 A20.out).mono ?_); (case side1 => first | exact HMM.out | exact Dr.Tab.below HMM.out bw | (repeat (first | exact HMM.out | apply Dr.Tab.drewN | apply Dr.Tab.drew | apply Dr.Tab.alloc))); (case side2 => repeat (first | exact (Kd.R_reads' HO300.out).2.2 | (with_reducible refine Kd.C_alloc ?_ _) | (with_reducible refine Kd.C_drewN ?_ _) | (with_reducible refine Kd.C_drew ?_))); (case side3 => exact (Kd.R_reads' HO300.out).2.1); rintro e w30 ⟨v302, rfl, ho0, hb⟩; refine ⟨_, rfl, ?_⟩; replace HO_298001 := Aside0.mk (Kd.R_below (pr HO_298001) hb); replace HO300 := Aside0.mk (Kd.R_below (pr HO300) hb); have HO303 := Aside0.mk (Kd.R_lower ho0 (below_size bw)); replace BK290 := nk BK290 hb; replace BK291 := nk BK291 hb; replace BK297 := nk BK297 hb; replace HB := bs hb; (try clear hb); (try clear ho0); obtain ⟨Ao31, co31, eo31⟩ := Kd.R_slice HO303.out; subst eo31; have hcz32_0 := bc BK297 0 (.int .i64 a0_0); have hcz32_1 := bc BK297 1 (.slice Ao25 x298001_1.length co25); have hfz32_0 := blk_frozen BK297.out 0; have hfz32_1 := blk_frozen BK297.out 1))
      go_roundg k1
      case measure => have := HK1.out; omega
      case rel => exact ⟨(x7_1), (t298), (.slice Ao29 t298.length co29), (rs), H', ⟨by have := HK1.out; omega⟩, ⟨by (with_reducible repeat (first | apply Kd.R_alloc | apply Kd.R_drewN | apply Kd.R_drew)); exact Kd.R_mono (Kd.R_far (p := ⟨gb297, 1, none⟩) (Kd.R_types HO300.out BK297.out (by decide)) (fun _ hk => hk.2) (.slice Ao29 t298.length co29)) (fun _ hk => trivial)⟩, ⟨by (with_reducible repeat (first | refine blk_drewN ?_ _ | refine blk_drew ?_ | refine blk_alloc ?_ _)); refine blk_far ?_ NB290_297.out _; (with_reducible repeat (first | refine blk_drewN ?_ _ | refine blk_drew ?_ | refine blk_alloc ?_ _)); exact BK290.out⟩, ⟨by (with_reducible repeat (first | refine blk_drewN ?_ _ | refine blk_drew ?_ | refine blk_alloc ?_ _)); refine blk_far ?_ NB291_297.out _; (with_reducible repeat (first | refine blk_drewN ?_ _ | refine blk_drew ?_ | refine blk_alloc ?_ _)); exact BK291.out⟩, ⟨by (with_reducible repeat (first | refine blk_drewN ?_ _ | refine blk_drew ?_ | refine blk_alloc ?_ _)); refine blk_put (cs := #[.int .i64 a0_0, .slice Ao25 x298001_1.length co25]) ?_ 1 _ rfl; (with_reducible repeat (first | refine blk_drewN ?_ _ | refine blk_drew ?_ | refine blk_alloc ?_ _)); exact BK297.out⟩, ⟨bw⟩⟩
     ·rw [if_neg c21] at H
      have c21b0 : ((t301.length : Int) == 1) = false := beq_eq_false_iff_ne.mpr c21
      have c21b1 : ((t301.length : Int) != 1) = true := bne_iff_ne.mpr c21
      have H' := Aside0.mk H
      clear H
      have hnb33 := NB297_290.out
      have hnc33 := NB290_297.out
      have hnb34 := NB297_291.out
      have hnc34 := NB291_297.out
      have hcz35_0 : wr.cell? ⟨gb297, 0, none⟩ = some (.int .i64 a0_0) := ec BK297
      have hcz35_1 : wr.cell? ⟨gb297, 1, none⟩ = some (u298001) := ec BK297
      have hfz35_0 := blk_frozen BK297.out 0
      have hfz35_1 := blk_frozen BK297.out 1
      obtain ⟨Ao36, co36, eo36⟩ := Kd.R_slice HO_298001.out
      subst eo36
      go_wp2_with (first | ((with_reducible refine gate_callee (f := 80) rfl ?_); refine gl (some 31) Tryd.func80 #[.slice Ao36 x298001_1.length co36, .int .i64 x7_1] ?_; (with_reducible refine (impl_without.calls _ _ x298001_1 x7_1 t298 _ ?side1 ?side2 A19.out).mono ?_); (case side1 => repeat (first | exact (Kd.R_reads' HO_298001.out).2.2 | (with_reducible refine Kd.C_alloc ?_ _) | (with_reducible refine Kd.C_drewN ?_ _) | (with_reducible refine Kd.C_drew ?_))); (case side2 => exact (Kd.R_reads' HO_298001.out).2.1); rintro e w37 ⟨v299, rfl, ho0, hb⟩; refine ⟨_, rfl, ?_⟩; have HO300 := Aside0.mk (Kd.R_lower (Kd.R_new' ho0 (Kd.R_lt (pr HO_298001))) (below_size bw)); replace HO_298001 := Aside0.mk (Kd.R_elder' (pr HO_298001) (Kd.R_base ho0) hb); replace BK290 := nk BK290 hb; replace BK291 := nk BK291 hb; replace BK297 := nk BK297 hb; replace HB := bs hb; (try clear hb); (try clear ho0); have hnb38 := NB290_291.out; have hnc38 := NB291_290.out; have hcz39_0 := bc BK290 0 (.int .i64 a0_0); have hcz39_1 := bc BK290 1 (.slice A0_1 l0_1.length c0_1); have hfz39_0 := blk_frozen BK290.out 0; have hfz39_1 := blk_frozen BK290.out 1; obtain ⟨Ao40, co40, eo40⟩ := Kd.R_slice HO300.out; subst eo40) | ((with_reducible refine gate_callee (f := 77) rfl ?_); refine gl (some 35) Tryd.func77 #[.int .i64 a0_0, .slice Ao40 t298.length co40] ?_; (with_reducible refine (impl_solutions.calls k1 a0_0 _ _ t298 t301 _ ?side1 ?side2 ?side3 A20.out).mono ?_); (case side1 => first | exact HMM.out | exact Dr.Tab.below HMM.out bw | (repeat (first | exact HMM.out | apply Dr.Tab.drewN | apply Dr.Tab.drew | apply Dr.Tab.alloc))); (case side2 => repeat (first | exact (Kd.R_reads' HO300.out).2.2 | (with_reducible refine Kd.C_alloc ?_ _) | (with_reducible refine Kd.C_drewN ?_ _) | (with_reducible refine Kd.C_drew ?_))); (case side3 => exact (Kd.R_reads' HO300.out).2.1); rintro e w41 ⟨v302, rfl, ho0, hb⟩; refine ⟨_, rfl, ?_⟩; replace HO_298001 := Aside0.mk (Kd.R_below (pr HO_298001) hb); replace HO300 := Aside0.mk (Kd.R_below (pr HO300) hb); have HO303 := Aside0.mk (Kd.R_lower ho0 (below_size bw)); replace BK290 := nk BK290 hb; replace BK291 := nk BK291 hb; replace BK297 := nk BK297 hb; replace HB := bs hb; (try clear hb); (try clear ho0); obtain ⟨Ao42, co42, eo42⟩ := Kd.R_slice HO303.out; subst eo42))
      go_roundg k1
      case measure => have := HK1.out; omega
      case rel => exact ⟨(wrap64 (x7_1 + 1)), (x298001_1), (.slice Ao36 x298001_1.length co36), (rs), H', ⟨by have := HK1.out; omega⟩, ⟨by (with_reducible repeat (first | apply Kd.R_alloc | apply Kd.R_drewN | apply Kd.R_drew)); exact Kd.R_mono HO_298001.out (fun _ hk => trivial)⟩, ⟨pk BK290⟩, ⟨pk BK291⟩, ⟨pk BK297⟩, ⟨bw⟩⟩
    ·rw [if_neg c18] at H
     have c18b0 : decide (x7_1 < (x298001_1.length : Int)) = false := decide_eq_false c18
     clear c18
     simp only [Option.some.injEq, Prod.mk.injEq] at H
     obtain ⟨rfl, rfl, rfl⟩ := H
     have hnb43 := NB297_290.out
     have hnc43 := NB290_297.out
     have hnb44 := NB297_291.out
     have hnc44 := NB291_297.out
     have hcz45_0 : wr.cell? ⟨gb297, 0, none⟩ = some (.int .i64 a0_0) := ec BK297
     have hcz45_1 : wr.cell? ⟨gb297, 1, none⟩ = some (u298001) := ec BK297
     have hfz45_0 := blk_frozen BK297.out 0
     have hfz45_1 := blk_frozen BK297.out 1
     obtain ⟨Ao46, co46, eo46⟩ := Kd.R_slice HO_298001.out
     subst eo46
     have hnb47 := NB291_290.out
     have hnc47 := NB290_291.out
     have hcz48_0 : wr.cell? ⟨gb291, 0, none⟩ = some (.int .i64 0) := ec BK291
     have hcz48_1 : wr.cell? ⟨gb291, 1, none⟩ = some (.slice none 0 0) := ec BK291
     have hfz48_0 := blk_frozen BK291.out 0
     have hfz48_1 := blk_frozen BK291.out 1
     go_wp2
     refine bodyPost_ret (results_ct rfl _ _ gb291 38 #[.int .i64 a0_0, .slice Ao46 x298001_1.length co46] (0, 0) _ rfl (by (with_reducible repeat (first | refine blk_drewN ?_ _ | refine blk_drew ?_ | refine blk_alloc ?_ _)); refine blk_put (cs := #[.int .i64 a0_0, .slice none 0 0]) ?_ 1 _ rfl; (with_reducible repeat (first | refine blk_drewN ?_ _ | refine blk_drew ?_ | refine blk_alloc ?_ _)); refine blk_put (cs := #[.int .i64 0, .slice none 0 0]) ?_ 0 _ rfl; (with_reducible repeat (first | refine blk_drewN ?_ _ | refine blk_drew ?_ | refine blk_alloc ?_ _)); exact BK291.out) Tryd.underlying38 rfl (by kernel_rfl)) rfl ?_
     exact ⟨_, rs, by (with_reducible repeat (first | apply Kd.R_alloc | apply Kd.R_drewN | apply Kd.R_drew)); exact Kd.R_mono (Kd.R_far (p := ⟨gb291, 1, none⟩) (Kd.R_far (p := ⟨gb291, 0, none⟩) (Kd.R_types HO_298001.out BK291.out (by decide)) (fun _ hk => hk.2) (.int .i64 a0_0)) (fun _ hk => hk.2) (.slice Ao46 x298001_1.length co46)) (fun _ hk => trivial), bw⟩
 ·replace c3 := Bool.eq_false_iff.mpr c3
  subst c3
  rw [if_neg (show ¬ (false = true) by decide)] at H
  simp only [Option.some.injEq, Prod.mk.injEq] at H
  obtain ⟨rfl, rfl, rfl⟩ := H
  go_enter Tryd.func52, Tryd.ntmps52
  go_wp2_with (first | ((with_reducible refine gate_dst (N := 1) rfl ?_); refine bx 1 38 #[.int .i64 a0_0, .slice A0_1 l0_1.length c0_1] ?_; intro gb290 hg w49 hbox hb; have BK290 := hbox; have GW290 := gs hg; have GE290 := gs hg; replace HB := bs hb; clear hb hbox hg) | ((with_reducible refine gate_dst (N := 2) rfl ?_); refine bx 2 38 #[.int .i64 0, .slice none 0 0] ?_; intro gb291 hg w50 hbox hb; have BK291 := hbox; have GW291 := gs hg; have GE291 := gs hg; replace HB := bs hb; have NB290_291 := nl BK290 hg; have NB291_290 := ng BK290 hg; replace BK290 := nk BK290 hb; clear hb hbox hg; have hnb51 := NB290_291.out; have hnc51 := NB291_290.out; have hcz52_0 := bc BK290 0 (.int .i64 a0_0); have hcz52_1 := bc BK290 1 (.slice A0_1 l0_1.length c0_1); have hfz52_0 := blk_frozen BK290.out 0; have hfz52_1 := blk_frozen BK290.out 1) | ((with_reducible refine gate_callee (f := 32) rfl ?_); refine gl (some 11) Tryd.func32 #[.agg #[.int .i64 a0_0, .slice A0_1 l0_1.length c0_1]] ?_; (with_reducible refine (impl_IsSolved.calls k a0_0 _ _ l0_1 false t293 _ ?side1 ?side2 ?side3 A2.out).mono ?_); (case side1 => first | exact HMM.out | exact Dr.Tab.below HMM.out bw | (repeat (first | exact HMM.out | apply Dr.Tab.drewN | apply Dr.Tab.drew | apply Dr.Tab.alloc))); (case side2 => repeat (first | exact (Kd.C_below HR0_1.out HB.out) | (with_reducible refine Kd.C_alloc ?_ _) | (with_reducible refine Kd.C_drewN ?_ _) | (with_reducible refine Kd.C_drew ?_))); (case side3 => exact HC0_1.out); rintro e w53 ⟨rfl, hb⟩; refine ⟨_, rfl, ?_⟩; replace BK290 := nk BK290 hb; replace BK291 := nk BK291 hb; replace HB := bs hb; (try clear hb); have hcz54_0 := bc BK291 0 (.int .i64 0); have hcz54_1 := bc BK291 1 (.slice none 0 0); have hfz54_0 := blk_frozen BK291.out 0; have hfz54_1 := blk_frozen BK291.out 1))
  refine bodyPost_ret (results_ct rfl _ _ gb291 38 #[.int .i64 0, .slice none 0 0] (0, 0) _ rfl (by (with_reducible repeat (first | refine blk_drewN ?_ _ | refine blk_drew ?_ | refine blk_alloc ?_ _)); refine blk_put (cs := #[.int .i64 0, .slice none 0 0]) ?_ 1 _ rfl; (with_reducible repeat (first | refine blk_drewN ?_ _ | refine blk_drew ?_ | refine blk_alloc ?_ _)); refine blk_put (cs := #[.int .i64 0, .slice none 0 0]) ?_ 0 _ rfl; (with_reducible repeat (first | refine blk_drewN ?_ _ | refine blk_drew ?_ | refine blk_alloc ?_ _)); exact BK291.out) Tryd.underlying38 rfl (by kernel_rfl)) rfl ?_
  exact ⟨_, rs, by first | exact Kd.R_nil _ _ _ _ _ | exact Kd.N_nil _ _ _ _ _ | exact Kd.V_nil _ _ _ _ _ | exact Kd.Q_nil _ _ _ _ _ | exact Kd.S_nil _ _ _ _ _, bw⟩

end Go.Proofs.YtmindeeacfdonaaDoor.PFnExactHarderPuzzle
