-- Laid by xprint, a program of this session that runs over the kit's print.
import Derived.Test.YtonhhfhlhlifcaaGreatDoorPFnRowsHiddenOfAllx9
namespace Go.Proofs.YtonhhfhlhlifcaaGreatDoor.PFnRowsHiddenOfAll
open Go.RowKit Go.Proofs.YtonhhfhlhlifcaaGreatDoorW.PrintWords Go.Proofs.YtonhhfhlhlifcaaGreatDoorW.PrintLast Go.Proofs.YtonhhfhlhlifcaaGreatDoorW.PrintMore Go.Proofs.YtonhhfhlhlifcaaGreatDoor.Sq
attribute [local go_sem] max2_int min2_int max_two min_two max_three min_three max_four min_four   -- for this text's walks alone
set_option linter.unusedVariables false
set_option linter.unusedSimpArgs false

/-! ### impl_HarderPuzzle: function 13 -/
def impl_HarderPuzzle.l0 : Nat → Int → Int → List (S26) → Int → List (S26) → Option (Int × (List (S26)) × Bool)
  | 0, _, _, _, _, _ => none
  | k + 1, x7, x230000, x230001, x237000, x237001 => if x7 < (x237001.length : Int) then ((impl_without.f x237001 x7).bind fun t237 => ((impl_solutions.f k x230000 t237).bind fun t240 => (if (t240.length : Int) = 1 then (impl_HarderPuzzle.l0 k x7 x230000 x230001 x237000 t237) else (impl_HarderPuzzle.l0 k (wrap64 (x7 + 1)) x230000 x230001 x237000 x237001)))) else (some (x237000, x237001, true))
def impl_HarderPuzzle.f (k : Nat) (a0_0 : Int) (l0_1 : List (S26)) : Option (Int × (List (S26)) × Bool) := (impl_IsSolved.f k a0_0 l0_1).bind fun bt231 => (if bt231.1 = true then ((impl_Clue.f l0_1).bind fun t233 => (impl_HarderPuzzle.l0 k 0 a0_0 l0_1 a0_0 t233)) else (some (0, ([] : List (S26)), false)))
theorem impl_HarderPuzzle.mono_l : ∀ k, (∀ y0 y1 y2 y3 y4, LeO (impl_HarderPuzzle.l0 k y0 y1 y2 y3 y4) (impl_HarderPuzzle.l0 (k + 1) y0 y1 y2 y3 y4))
  | 0 => fun _ _ _ _ _ r h => by simp [impl_HarderPuzzle.l0] at h
  | k + 1 => by
    have ih0 := impl_HarderPuzzle.mono_l k
    · intro y0 y1 y2 y3 y4
      unfold impl_HarderPuzzle.l0
      repeat' first
      | (with_reducible exact ih0 _ _ _ _ _)
      | (with_reducible exact impl_IsSolved.mono _ _ _)
      | (with_reducible exact impl_solutions.mono _ _ _)
      | (with_reducible exact LeO.refl _)
      | (with_reducible exact LeO.none _)
      | (with_reducible refine LeO.ite ?_ ?_)
      | (with_reducible refine LeO.bind ?_ (fun _ => ?_))
      | exact ih0 _ _ _ _ _
      | exact impl_IsSolved.mono _ _ _
      | exact impl_solutions.mono _ _ _
      | exact LeO.none _
      | refine LeO.ite ?_ ?_
      | refine LeO.bind ?_ (fun _ => ?_)
theorem impl_HarderPuzzle.mono : ∀ a0 a1 k, LeO (impl_HarderPuzzle.f k a0 a1) (impl_HarderPuzzle.f (k + 1) a0 a1) := by
  intro a0 a1 k
  have ih0 := impl_HarderPuzzle.mono_l k
  unfold impl_HarderPuzzle.f
  repeat' first
      | (with_reducible exact ih0 _ _ _ _ _)
      | (with_reducible exact impl_IsSolved.mono _ _ _)
      | (with_reducible exact impl_solutions.mono _ _ _)
      | (with_reducible exact LeO.refl _)
      | (with_reducible exact LeO.none _)
      | (with_reducible refine LeO.ite ?_ ?_)
      | (with_reducible refine LeO.bind ?_ (fun _ => ?_))
      | exact ih0 _ _ _ _ _
      | exact impl_IsSolved.mono _ _ _
      | exact impl_solutions.mono _ _ _
      | exact LeO.none _
      | refine LeO.ite ?_ ?_
      | refine LeO.bind ?_ (fun _ => ?_)
def impl_HarderPuzzle.T4 : Bool × List (List Nat × List Nat) := (true, [([], []), ([0], [0]), ([], []), ([2], [2]), ([3], [3]), ([1, 4], [1, 4]), ([], []), ([6, 5, 4, 0, 1, 2, 3, 4, 5, 6], [5, 6])])
def impl_HarderPuzzle.B4 : List Nat := [0, 1, 0, 4, 12, 31, 0, 127]
theorem impl_HarderPuzzle.tab4 : rtab .any (opsOf Tryz.f13 4) = impl_HarderPuzzle.T4 := by kernel_rfl
theorem impl_HarderPuzzle.bits4 : waitsOk impl_HarderPuzzle.T4.2 impl_HarderPuzzle.B4 = true := by kernel_rfl
set_option maxHeartbeats 8000000 in
set_option maxRecDepth 100000 in
theorem impl_HarderPuzzle.calls (k : Nat) (a0_0 : Int) (A0_1 : Option Addr) (c0_1 : Nat) (l0_1 : List (S26)) (r1 : Int) (r2 : List (S26)) (r3 : Bool) (w : World) (hm : Dr.Tab w) (hr0_1 : Kd.C k26 w A0_1 l0_1.length l0_1) (hc0_1 : l0_1.length ≤ c0_1) (h : impl_HarderPuzzle.f k a0_0 l0_1 = some (r1, r2, r3)) :
  Calls Tryz.prog 13 #[.agg #[.int .i64 a0_0, .slice A0_1 l0_1.length c0_1]] w fun e w' => ∃ v1_ : Value, e = .returned (.tuple #[.agg #[.int .i64 r1, v1_], .bool r3]) ∧ Kd.R k26 26 w' w.heap.size (fun _ => True) v1_ r2 ∧ Below w.heap.size w w' := by
 have hu24 := Tryz.underlying24
 have HR0_1 := Aside0.mk hr0_1
 have HC0_1 := Aside0.mk hc0_1
 clear hr0_1 hc0_1
 have HB := Aside0.mk (Below.refl w.heap.size w)
 have HMM := Aside0.mk hm
 clear hm
 unfold impl_HarderPuzzle.f at h
 have H := h
 clear h
 obtain ⟨⟨t231, t232⟩, A2, H⟩ := ob H
 (try dsimp only at H)
 go_enter Tryz.func13, Tryz.ntmps13
 try go_wp2_with (first | ((with_reducible refine gd 1 ?_); refine bx 1 24 #[.int .i64 a0_0, .slice A0_1 l0_1.length c0_1] ?_; intro gb229 hg w5 hbox hb; have BK229 := hbox; have GW229 := gs hg; have GE229 := gs hg; replace HB := bs hb; clear hb hbox hg) | ((with_reducible refine gd 2 ?_); refine bx 2 24 #[.int .i64 0, .slice none 0 0] ?_; intro gb230 hg w6 hbox hb; have BK230 := hbox; have GW230 := gs hg; have GE230 := gs hg; replace HB := bs hb; have ⟨NB229_230, NB230_229⟩ := nn BK229 hg; replace BK229 := nk BK229 hb; clear hb hbox hg; have hnb7 := nb NB229_230; obtain ⟨hcz8_0, hcz8_1, hfz8_0, hfz8_1⟩ := z2 BK229; refine halt ?_))
 by_cases c3 : t231 = true
 ·subst c3
  rw [if_pos rfl] at H
  obtain ⟨t233, A4, H⟩ := ob H
  (try dsimp only at H)
  have H' := Aside0.mk H
  clear H
  refine Aside0.mk ?_
  try go_wp2_with (((with_reducible refine gc 15 ?_); refine gl (some 11) Tryz.func15 #[.agg #[.int .i64 a0_0, .slice A0_1 l0_1.length c0_1]] ?_; (with_reducible refine (impl_IsSolved.calls k a0_0 _ _ l0_1 true t232 _ ?_ ?_ ?_ A2.out).mono ?_); exact Dr.mm HMM; exact cb HR0_1; exact HC0_1.out; rintro e w9 ⟨rfl, hb⟩; refine ⟨_, rfl, ?_⟩; replace BK229 := nk BK229 hb; replace BK230 := nk BK230 hb; replace HB := bs hb; (try clear hb)))
  replace BK229 := Aside0.mk (blk_drew BK229.out)
  replace BK230 := Aside0.mk (blk_drew BK230.out)
  replace HB := Aside0.mk (below_drew1 HB.out)
  refine start_ (n := 8) (S := fun w' => w'.cell? ⟨gb229, 0, none⟩ = some (.int .i64 a0_0) ∧ w'.cell? ⟨gb229, 1, none⟩ = some (.slice A0_1 l0_1.length c0_1)) (ds := []) (tb 8 0) (by kernel_rfl) rfl rfl ⟨ec BK229, ec BK229⟩ (fun hHeld => ?_); refine with_tabW impl_HarderPuzzle.tab4 impl_HarderPuzzle.bits4 (fun HT_ HW_ => ?_)
  generalize w9.drew = w10 at BK229 BK230 HB hHeld ⊢
  refine pu 0 (some 17) (tb 8 1) ?_
  refine pu 2 (some 19) (tb 8 5) ?_
  refine tk 1 (some 18) (tb 8 7) hHeld ?_
  refine tk 3 (some 20) (tb 8 15) hHeld ?_
  refine join_ (σ := Value × Nat) 1 (tb 8 127) (fun s_ => [(21, s_.1), (6, .pointer (some ⟨s_.2, 0, none⟩)), (22, .agg #[.int .i64 a0_0, s_.1])]) (fun s_ w' => (w'.cell? ⟨gb229, 0, none⟩ = some (.int .i64 a0_0) ∧ w'.cell? ⟨gb229, 1, none⟩ = some (.slice A0_1 l0_1.length c0_1)) ∧ (Kd.R k26 26 w' w.heap.size (fun _ => True) s_.1 t233) ∧ (w'.heap[gb229]? = some (.cells #[.int .i64 a0_0, .slice A0_1 l0_1.length c0_1] 24 (0, 0))) ∧ (w'.heap[gb230]? = some (.cells #[.int .i64 0, .slice none 0 0] 24 (0, 0))) ∧ (w'.heap[s_.2]? = some (.cells #[.int .i64 0, .slice none 0 0] 24 (0, 0))) ∧ (w.heap.size ≤ s_.2) ∧ (w.heap.size ≤ s_.2) ∧ (gb229 ≠ s_.2) ∧ (s_.2 ≠ gb229) ∧ (gb230 ≠ s_.2) ∧ (s_.2 ≠ gb230) ∧ (Below w.heap.size w w')) ?_ ?_
  rotate_left
  ·intro hCont
   refine two_ (i := 4) (j := 6) (Ni := some 21) (Nj := some 6) (tb 8 31) (tb 8 79) rfl rfl rfl rfl (two_of HT_.out (by kernel_rfl)) (by decide) (by decide) (fun K hK => ?_) (fun K hK => ?_)
   ·skip
    refine go1 Tryz.func44 #[.slice A0_1 l0_1.length c0_1] ?_
    with_reducible refine (impl_Clue.calls _ _ l0_1 t233 _ ?side1 ?side2 A4.out).mono ?_
    (case side1 => exact cb HR0_1)
    (case side2 => exact HC0_1.out)
    rintro e w11 ⟨v234, rfl, ho0, hb⟩
    refine ⟨_, rfl, ?_⟩
    have HO235 := Aside0.mk (Kd.R_lower ho0 (below_size bw))
    replace BK229 := nk BK229 hb
    replace BK230 := nk BK230 hb
    replace HB := bs hb
    (try clear hb)
    (try clear ho0)
    obtain ⟨Ao12, co12, eo12⟩ := Kd.R_slice HO235.out
    (first | subst eo12 | (injection eo12 with f1_ f2_ f3_; have f4_ := f1_.symm; have f5_ := f3_.symm; clear f1_ f2_ f3_; subst f4_; subst f5_))
    refine hK.out _ _ ⟨ec BK229, ec BK229⟩ (fun hHeld => ?_)
    clear hK K
    refine nm (some 21) ?_
    refine pu 5 (some 22) (tb 8 63) ?_
    refine one_ (i := 6) (N := some 6) (tb 8 127) rfl rfl (one_of HT_.out (by kernel_rfl)) (by decide) (fun K hK => ?_)
    refine box_step ?hg (N := 6) ?hd (cs := #[.int .i64 0, .slice none 0 0]) (t := 24) ?hr ?_; (case hd => rfl); (case hg => rfl); (case hr => first | (go_simp; done) | (go_simp; rfl))
    intro gb236 hg w13 hbox hb
    replace HO235 := rl HO235 hb
    have BK236 := Aside0.mk (hbox)
    have GW236 := gs hg
    have GE236 := gs hg
    replace HB := bs hb
    have ⟨NB229_236, NB236_229⟩ := nn BK229 hg
    replace BK229 := nk BK229 hb
    have ⟨NB230_236, NB236_230⟩ := nn BK230 hg
    replace BK230 := nk BK230 hb
    clear hb hbox hg
    refine hK.out _ _ ⟨ec BK229, ec BK229⟩ (fun hHeld => ?_)
    clear hK K
    refine nm (some 6) ?_
    exact norm_ (by simp only [putAll, Act.put, List.setIfInBounds_toArray, List.set_cons_zero, List.set_cons_succ]) (hCont (.slice Ao12 t233.length co12, gb236) _ ⟨hHeld, (pr HO235), (pk BK229), (pk BK230), (pk BK236), GW236.out, GE236.out, NB229_236.out, NB236_229.out, NB230_236.out, NB236_230.out, bw⟩)
   ·skip
    refine box_step ?hg (N := 6) ?hd (cs := #[.int .i64 0, .slice none 0 0]) (t := 24) ?hr ?_; (case hd => rfl); (case hg => rfl); (case hr => first | (go_simp; done) | (go_simp; rfl))
    intro gb236 hg w11 hbox hb
    have BK236 := Aside0.mk (hbox)
    have GW236 := gs hg
    have GE236 := gs hg
    replace HB := bs hb
    have ⟨NB229_236, NB236_229⟩ := nn BK229 hg
    replace BK229 := nk BK229 hb
    have ⟨NB230_236, NB236_230⟩ := nn BK230 hg
    replace BK230 := nk BK230 hb
    clear hb hbox hg
    refine hK.out _ _ ⟨ec BK229, ec BK229⟩ (fun hHeld => ?_)
    clear hK K
    refine nm (some 6) ?_
    refine one_ (i := 4) (N := some 21) (tb 8 95) rfl rfl (one_of HT_.out (by kernel_rfl)) (by decide) (fun K hK => ?_)
    refine go1 Tryz.func44 #[.slice A0_1 l0_1.length c0_1] ?_
    with_reducible refine (impl_Clue.calls _ _ l0_1 t233 _ ?side1 ?side2 A4.out).mono ?_
    (case side1 => exact cb HR0_1)
    (case side2 => exact HC0_1.out)
    rintro e w12 ⟨v234, rfl, ho0, hb⟩
    refine ⟨_, rfl, ?_⟩
    have HO235 := Aside0.mk (Kd.R_lower ho0 (below_size bw))
    replace BK229 := nk BK229 hb
    replace BK230 := nk BK230 hb
    replace BK236 := nk BK236 hb
    replace HB := bs hb
    (try clear hb)
    (try clear ho0)
    obtain ⟨Ao13, co13, eo13⟩ := Kd.R_slice HO235.out
    (first | subst eo13 | (injection eo13 with f1_ f2_ f3_; have f4_ := f1_.symm; have f5_ := f3_.symm; clear f1_ f2_ f3_; subst f4_; subst f5_))
    refine hK.out _ _ ⟨ec BK229, ec BK229⟩ (fun hHeld => ?_)
    clear hK K
    refine nm (some 21) ?_
    refine pu 5 (some 22) (tb 8 127) ?_
    exact norm_ (by simp only [putAll, Act.put, List.setIfInBounds_toArray, List.set_cons_zero, List.set_cons_succ]) (hCont (.slice Ao13 t233.length co13, gb236) _ ⟨hHeld, (pr HO235), (pk BK229), (pk BK230), (pk BK236), GW236.out, GE236.out, NB229_236.out, NB236_229.out, NB230_236.out, NB236_230.out, bw⟩)
  rintro ⟨v234, gb236⟩ w14 ⟨hS_, h0_, h1_, h2_, h3_, h4_, h5_, h6_, h7_, h8_, h9_, h10_⟩
  have n0_ : Aside0 (Kd.R k26 26 w14 w.heap.size (fun _ => True) v234 t233) := ⟨h0_⟩
  have n1_ : Aside0 (w14.heap[gb229]? = some (.cells #[.int .i64 a0_0, .slice A0_1 l0_1.length c0_1] 24 (0, 0))) := ⟨h1_⟩
  have n2_ : Aside0 (w14.heap[gb230]? = some (.cells #[.int .i64 0, .slice none 0 0] 24 (0, 0))) := ⟨h2_⟩
  have n3_ : Aside0 (w14.heap[gb236]? = some (.cells #[.int .i64 0, .slice none 0 0] 24 (0, 0))) := ⟨h3_⟩
  have n4_ : Aside0 (w.heap.size ≤ gb236) := ⟨h4_⟩
  have n5_ : Aside0 (w.heap.size ≤ gb236) := ⟨h5_⟩
  have n6_ : Aside0 (gb229 ≠ gb236) := ⟨h6_⟩
  have n7_ : Aside0 (gb236 ≠ gb229) := ⟨h7_⟩
  have n8_ : Aside0 (gb230 ≠ gb236) := ⟨h8_⟩
  have n9_ : Aside0 (gb236 ≠ gb230) := ⟨h9_⟩
  have n10_ : Aside0 (Below w.heap.size w w14) := ⟨h10_⟩
  clear BK229
  clear BK230
  clear HB
  clear h0_ h1_ h2_ h3_ h4_ h5_ h6_ h7_ h8_ h9_ h10_
  have HO235 := n0_
  have BK229 := n1_
  have BK230 := n2_
  have BK236 := n3_
  have GW236 := n4_
  have GE236 := n5_
  have NB229_236 := n6_
  have NB236_229 := n7_
  have NB230_236 := n8_
  have NB236_230 := n9_
  have HB := n10_
  clear n0_ n1_ n2_ n3_ n4_ n5_ n6_ n7_ n8_ n9_ n10_
  have hHeld : w14.cell? ⟨gb229, 0, none⟩ = some (.int .i64 a0_0) ∧ w14.cell? ⟨gb229, 1, none⟩ = some (.slice A0_1 l0_1.length c0_1) := hS_
  obtain ⟨Ao15, co15, eo15⟩ := Kd.R_slice HO235.out
  (first | subst eo15 | (injection eo15 with f1_ f2_ f3_; have f4_ := f1_.symm; have f5_ := f3_.symm; clear f1_ f2_ f3_; subst f4_; subst f5_))
  refine norm_ (a' := ?_) ?_ ?_
  rotate_left
  ·simp only [putAll, Act.put, List.setIfInBounds_toArray, List.set_cons_zero, List.set_cons_succ]
   rfl
  refine one_ (i := 7) (N := none) (tb 8 255) rfl rfl (one_of HT_.out (by kernel_rfl)) (by decide) (fun K hK => ?_)
  have hs16 : w14.cell? ⟨gb236, 0, none⟩ = some (.int .i64 0) := ec BK236
  have hfs16 := blk_frozen BK236.out 0
  have hns16_0 := NB229_236.out
  have hns16_1 := NB230_236.out
  have hms16_0 := NB236_229.out
  have hms16_1 := NB236_230.out
  have hs17 : w14.cell? ⟨gb236, 1, none⟩ = some (.slice none 0 0) := ec BK236
  have hfs17 := blk_frozen BK236.out 1
  have hns17_0 := NB229_236.out
  have hns17_1 := NB230_236.out
  have hms17_0 := NB236_229.out
  have hms17_1 := NB236_230.out
  refine skip_ (w1 := ?_) (by rfl) rfl ?_ ?_
  rotate_left
  ·go_simp
   rfl
  refine hK.out _ _ ⟨((cell_far (p := ⟨gb236, _, none⟩) NB229_236.out _).trans (((cell_far (p := ⟨gb236, _, none⟩) NB229_236.out _).trans (hHeld.1)))), ((cell_far (p := ⟨gb236, _, none⟩) NB229_236.out _).trans (((cell_far (p := ⟨gb236, _, none⟩) NB229_236.out _).trans (hHeld.2))))⟩ (fun hHeld => ?_)
  clear hK K
  refine done_ (done_of HT_.out (by kernel_rfl)) ?_
  try go_wp2
  go_loopg [7] k (fun kq v7 w' => ∃ (x7_1 : Int) (x237001_1 : List (S26)) (u237001 : Value), v7 = .int .i64 x7_1 ∧ Aside0 (impl_HarderPuzzle.l0 kq x7_1 a0_0 l0_1 a0_0 x237001_1 = some (r1, r2, r3)) ∧ Aside0 (kq ≤ k) ∧ Aside0 (Kd.R k26 26 w' w.heap.size (fun _ => True) u237001 x237001_1) ∧ Aside0 (w'.heap[gb229]? = some (.cells #[.int .i64 a0_0, (.slice A0_1 l0_1.length c0_1)] 24 (0, 0))) ∧ Aside0 (w'.heap[gb230]? = some (.cells #[.int .i64 0, (.slice none 0 0)] 24 (0, 0))) ∧ Aside0 (w'.heap[gb236]? = some (.cells #[.int .i64 a0_0, u237001] 24 (0, 0))) ∧ Aside0 (Below w.heap.size w w'))
  case atStart => exact ⟨(0), (t233), (.slice Ao15 t233.length co15), (rs), H', ⟨Nat.le_refl _⟩, ⟨by (with_reducible repeat (first | apply Kd.R_alloc | apply Kd.R_drewN | apply Kd.R_drew)); exact Kd.R_mono (Kd.R_far (p := ⟨gb236, 1, none⟩) (Kd.R_far (p := ⟨gb236, 0, none⟩) (Kd.R_types HO235.out BK236.out (by decide)) (fun _ hk => hk.2) (.int .i64 a0_0)) (fun _ hk => hk.2) (.slice Ao15 t233.length co15)) (fun _ hk => trivial)⟩, ⟨pf BK229⟩, ⟨pf BK230⟩, ⟨pz BK236⟩, ⟨bw⟩⟩
  case round =>
   clear H'
   try clear c1
   try clear p2
   try clear c3
   try clear c4
   try clear c7
   try clear c13
   try clear c15
   try clear hcz8_0
   try clear hcz8_1
   try clear hfz8_0
   try clear hfz8_1
   obtain ⟨x7_1, x237001_1, u237001, rfl, HA, HK1, HO_237001, BK229, BK230, BK236, HB⟩ := hrel
   cases gk with
   | zero => exact absurd HA.out (by simp [impl_HarderPuzzle.l0])
   | succ k1 =>
    have H := HA.out
    clear HA
    simp only [impl_HarderPuzzle.l0] at H
    by_cases c18 : x7_1 < (x237001_1.length : Int)
    ·rw [if_pos c18] at H
     have c18b0 := decide_eq_true c18
     clear c18
     obtain ⟨t237, A19, H⟩ := ob H
     (try dsimp only at H)
     obtain ⟨t240, A20, H⟩ := ob H
     (try dsimp only at H)
     by_cases c21 : (t240.length : Int) = 1
     ·rw [if_pos c21] at H
      have c21b0 : ((t240.length : Int) == 1) = true := beq_iff_eq.mpr c21
      have c21b1 : ((t240.length : Int) != 1) = false := bne_eq_false_iff_eq.mpr c21
      clear c21
      have H' := Aside0.mk H
      clear H
      have hnb22 := nb NB236_229
      have hnb23 := nb NB236_230
      have hcz24_0 : wr.cell? ⟨gb236, 0, none⟩ = some (.int .i64 a0_0) := ec BK236
      have hcz24_1 : wr.cell? ⟨gb236, 1, none⟩ = some (u237001) := ec BK236
      have hfz24_0 := blk_frozen BK236.out 0
      have hfz24_1 := blk_frozen BK236.out 1
      obtain ⟨Ao25, co25, eo25⟩ := Kd.R_slice HO_237001.out
      subst eo25
      go_wp2_with (first | ((with_reducible refine gc 45 ?_); refine gl (some 31) Tryz.func45 #[.slice Ao25 x237001_1.length co25, .int .i64 x7_1] ?_; (with_reducible refine (impl_without.calls _ _ x237001_1 x7_1 t237 _ ?_ ?_ A19.out).mono ?_); exact rr HO_237001; exact rn HO_237001; rintro e w26 ⟨v238, rfl, ho0, hb⟩; refine ⟨_, rfl, ?_⟩; have HO239 := Aside0.mk (Kd.R_lower (Kd.R_new' ho0 (Kd.R_lt (pr HO_237001))) (below_size bw)); replace HO_237001 := re HO_237001 ho0 hb; replace BK229 := nk BK229 hb; replace BK230 := nk BK230 hb; replace BK236 := nk BK236 hb; replace HB := bs hb; (try clear hb); (try clear ho0); have hnb27 := nb NB229_230; have hz28 := z2 BK229; obtain ⟨Ao29, co29, eo29⟩ := Kd.R_slice HO239.out; subst eo29) | ((with_reducible refine gc 46 ?_); refine gl (some 35) Tryz.func46 #[.int .i64 a0_0, .slice Ao29 t237.length co29] ?_; (with_reducible refine (impl_solutions.calls k1 a0_0 _ _ t237 t240 _ ?_ ?_ ?_ A20.out).mono ?_); exact Dr.mm HMM; exact rr HO239; exact rn HO239; rintro e w30 ⟨v241, rfl, ho0, hb⟩; refine ⟨_, rfl, ?_⟩; replace HO_237001 := rl HO_237001 hb; replace HO239 := rl HO239 hb; have HO242 := Aside0.mk (Kd.R_lower ho0 (below_size bw)); replace BK229 := nk BK229 hb; replace BK230 := nk BK230 hb; replace BK236 := nk BK236 hb; replace HB := bs hb; (try clear hb); (try clear ho0); obtain ⟨Ao31, co31, eo31⟩ := Kd.R_slice HO242.out; subst eo31; have hz32 := z2 BK236))
      go_roundg k1
      case measure => have := HK1.out; omega
      case rel => exact ⟨(x7_1), (t237), (.slice Ao29 t237.length co29), (rs), H', ⟨by have := HK1.out; omega⟩, ⟨by (with_reducible repeat (first | apply Kd.R_alloc | apply Kd.R_drewN | apply Kd.R_drew)); exact Kd.R_mono (Kd.R_far (p := ⟨gb236, 1, none⟩) (Kd.R_types HO239.out BK236.out (by decide)) (fun _ hk => hk.2) (.slice Ao29 t237.length co29)) (fun _ hk => trivial)⟩, ⟨pf BK229⟩, ⟨pf BK230⟩, ⟨pz BK236⟩, ⟨bw⟩⟩
     rw [if_neg c21] at H
     have c21b0 : ((t240.length : Int) == 1) = false := beq_eq_false_iff_ne.mpr c21
     have c21b1 : ((t240.length : Int) != 1) = true := bne_iff_ne.mpr c21
     have H' := Aside0.mk H
     clear H
     have hnb33 := nb NB236_229
     have hnb34 := nb NB236_230
     have hcz35_0 : wr.cell? ⟨gb236, 0, none⟩ = some (.int .i64 a0_0) := ec BK236
     have hcz35_1 : wr.cell? ⟨gb236, 1, none⟩ = some (u237001) := ec BK236
     have hfz35_0 := blk_frozen BK236.out 0
     have hfz35_1 := blk_frozen BK236.out 1
     obtain ⟨Ao36, co36, eo36⟩ := Kd.R_slice HO_237001.out
     subst eo36
     go_wp2_with (first | ((with_reducible refine gc 45 ?_); refine gl (some 31) Tryz.func45 #[.slice Ao36 x237001_1.length co36, .int .i64 x7_1] ?_; (with_reducible refine (impl_without.calls _ _ x237001_1 x7_1 t237 _ ?_ ?_ A19.out).mono ?_); exact rr HO_237001; exact rn HO_237001; rintro e w37 ⟨v238, rfl, ho0, hb⟩; refine ⟨_, rfl, ?_⟩; have HO239 := Aside0.mk (Kd.R_lower (Kd.R_new' ho0 (Kd.R_lt (pr HO_237001))) (below_size bw)); replace HO_237001 := re HO_237001 ho0 hb; replace BK229 := nk BK229 hb; replace BK230 := nk BK230 hb; replace BK236 := nk BK236 hb; replace HB := bs hb; (try clear hb); (try clear ho0); have hnb38 := nb NB229_230; have hz39 := z2 BK229; obtain ⟨Ao40, co40, eo40⟩ := Kd.R_slice HO239.out; subst eo40) | ((with_reducible refine gc 46 ?_); refine gl (some 35) Tryz.func46 #[.int .i64 a0_0, .slice Ao40 t237.length co40] ?_; (with_reducible refine (impl_solutions.calls k1 a0_0 _ _ t237 t240 _ ?_ ?_ ?_ A20.out).mono ?_); exact Dr.mm HMM; exact rr HO239; exact rn HO239; rintro e w41 ⟨v241, rfl, ho0, hb⟩; refine ⟨_, rfl, ?_⟩; replace HO_237001 := rl HO_237001 hb; replace HO239 := rl HO239 hb; have HO242 := Aside0.mk (Kd.R_lower ho0 (below_size bw)); replace BK229 := nk BK229 hb; replace BK230 := nk BK230 hb; replace BK236 := nk BK236 hb; replace HB := bs hb; (try clear hb); (try clear ho0); obtain ⟨Ao42, co42, eo42⟩ := Kd.R_slice HO242.out; subst eo42))
     go_roundg k1
     case measure => have := HK1.out; omega
     case rel => exact ⟨(wrap64 (x7_1 + 1)), (x237001_1), (.slice Ao36 x237001_1.length co36), (rs), H', ⟨by have := HK1.out; omega⟩, ⟨by (with_reducible repeat (first | apply Kd.R_alloc | apply Kd.R_drewN | apply Kd.R_drew)); exact Kd.R_mono HO_237001.out (fun _ hk => trivial)⟩, ⟨pk BK229⟩, ⟨pk BK230⟩, ⟨pk BK236⟩, ⟨bw⟩⟩
    rw [if_neg c18] at H
    have c18b0 := decide_eq_false c18
    clear c18
    simp only [Option.some.injEq, Prod.mk.injEq] at H
    obtain ⟨rfl, rfl, rfl⟩ := H
    have hnb43 := nb NB236_229
    have hnb44 := nb NB236_230
    have hcz45_0 : wr.cell? ⟨gb236, 0, none⟩ = some (.int .i64 a0_0) := ec BK236
    have hcz45_1 : wr.cell? ⟨gb236, 1, none⟩ = some (u237001) := ec BK236
    have hfz45_0 := blk_frozen BK236.out 0
    have hfz45_1 := blk_frozen BK236.out 1
    obtain ⟨Ao46, co46, eo46⟩ := Kd.R_slice HO_237001.out
    subst eo46
    have hcz47_0 : wr.cell? ⟨gb230, 0, none⟩ = some (.int .i64 0) := ec BK230
    have hcz47_1 : wr.cell? ⟨gb230, 1, none⟩ = some (.slice none 0 0) := ec BK230
    have hfz47_0 := blk_frozen BK230.out 0
    have hfz47_1 := blk_frozen BK230.out 1
    go_wp2
    refine bodyPost_ret (results_ct rfl _ _ gb230 24 #[.int .i64 a0_0, .slice Ao46 x237001_1.length co46] (0, 0) _ rfl (pz BK230) Tryz.underlying24 rfl (by kernel_rfl)) rfl ?_
    exact ⟨_, rs, by (with_reducible repeat (first | apply Kd.R_alloc | apply Kd.R_drewN | apply Kd.R_drew)); exact Kd.R_mono (Kd.R_far (p := ⟨gb230, 1, none⟩) (Kd.R_far (p := ⟨gb230, 0, none⟩) (Kd.R_types HO_237001.out BK230.out (by decide)) (fun _ hk => hk.2) (.int .i64 a0_0)) (fun _ hk => hk.2) (.slice Ao46 x237001_1.length co46)) (fun _ hk => trivial), bw⟩
 replace c3 := Bool.eq_false_iff.mpr c3
 subst c3
 rw [if_neg (show ¬ (false = true) by decide)] at H
 simp only [Option.some.injEq, Prod.mk.injEq] at H
 obtain ⟨rfl, rfl, rfl⟩ := H
 refine Aside0.mk ?_
 try go_wp2_with (((with_reducible refine gc 15 ?_); refine gl (some 11) Tryz.func15 #[.agg #[.int .i64 a0_0, .slice A0_1 l0_1.length c0_1]] ?_; (with_reducible refine (impl_IsSolved.calls k a0_0 _ _ l0_1 false t232 _ ?_ ?_ ?_ A2.out).mono ?_); exact Dr.mm HMM; exact cb HR0_1; exact HC0_1.out; rintro e w52 ⟨rfl, hb⟩; refine ⟨_, rfl, ?_⟩; replace BK230 := nk BK230 hb; replace HB := bs hb; (try clear hb); have hz53 := z2 BK230))
 refine bodyPost_ret (results_ct rfl _ _ gb230 24 #[.int .i64 0, .slice none 0 0] (0, 0) _ rfl (pz BK230) Tryz.underlying24 rfl (by kernel_rfl)) rfl ?_
 exact ⟨_, rs, by first | exact Kd.R_nil _ _ _ _ _ | exact Kd.N_nil _ _ _ _ _ | exact Kd.V_nil _ _ _ _ _ | exact Kd.Q_nil _ _ _ _ _ | exact Kd.S_nil _ _ _ _ _, bw⟩

/-! ### spec_pzClue: function 50 -/
def spec_pzClue.f (a0 : Int) (a1_0 : Int) (a1_1 : Int) (a1_2 : Int) (a1_3 : Int) : Option (Bool) := if a1_0 = 0 then ((spec_l1In.f a1_1 0 (wrap64 (a0 - 1))).bind fun t244 => (if t244 = true then ((spec_l1In.f a1_2 0 20).bind fun t245 => (if t245 = true then ((spec_l1In.f a1_3 0 1).bind fun t246 => (some t246)) else (some false))) else (some false))) else (if a1_0 = 1 then (if a1_1 = 0 then (if a1_2 = 0 then ((spec_l1In.f a1_3 0 a0).bind fun t247 => (some t247)) else (some false)) else (some false)) else (if a1_0 = 2 then (if a1_1 = 0 then (if a1_2 = 0 then ((spec_l1In.f a1_3 0 20).bind fun t248 => (some t248)) else (some false)) else (some false)) else (if a1_0 = 3 then (if a1_1 = 0 then (if a1_2 = 0 then ((spec_l1In.f a1_3 0 8).bind fun t249 => (some t249)) else (some false)) else (some false)) else (if a1_0 = 4 then ((spec_l1In.f a1_1 0 (wrap64 (a0 - 1))).bind fun t250 => (if t250 = true then (if a1_2 = 0 then ((spec_l1In.f a1_3 0 20).bind fun t251 => (some t251)) else (some false)) else (some false))) else (some false)))))
set_option maxHeartbeats 8000000 in
set_option maxRecDepth 100000 in
theorem spec_pzClue.calls (a0 : Int) (a1_0 : Int) (a1_1 : Int) (a1_2 : Int) (a1_3 : Int) (r : Bool) (w : World) (h : spec_pzClue.f a0 a1_0 a1_1 a1_2 a1_3 = some r) :
  Calls Tryz.prog 50 #[.int .i64 a0, .agg #[.int .i64 a1_0, .int .i64 a1_1, .int .i64 a1_2, .int .i64 a1_3]] w fun e w' => e = .returned (.bool r) ∧ Below w.heap.size w w' := by
 have hu26 := Tryz.underlying26
 have HB := Aside0.mk (Below.refl w.heap.size w)
 unfold spec_pzClue.f at h
 have H := h
 clear h
 by_cases c3 : a1_0 = 0
 ·rw [if_pos c3] at H
  have c3b0 : (a1_0 == 0) = true := beq_iff_eq.mpr c3
  have c3b1 : (a1_0 != 0) = false := bne_eq_false_iff_eq.mpr c3
  clear c3
  obtain ⟨t244, A4, H⟩ := ob H
  (try dsimp only at H)
  go_enter Tryz.func50, Tryz.ntmps50
  go_wp2_with (((with_reducible refine gd 3 ?_); refine bx 3 26 #[.int .i64 a1_0, .int .i64 a1_1, .int .i64 a1_2, .int .i64 a1_3] ?_; intro gb243 hg w9 hbox hb; have BK243 := hbox; have GW243 := gs hg; have GE243 := gs hg; replace HB := bs hb; clear hb hbox hg; have hz10 := z4 BK243; refine halt ?_))
  by_cases c5 : t244 = true
  ·subst c5
   rw [if_pos rfl] at H
   obtain ⟨t245, A6, H⟩ := ob H
   (try dsimp only at H)
   refine Aside0.mk ?_
   try go_wp2_with (((with_reducible refine gc 32 ?_); refine gl (some 13) Tryz.func32 #[.int .i64 a1_1, .int .i64 0, .int .i64 (wrap64 (a0 - 1))] ?_; (with_reducible refine (spec_l1In.calls a1_1 0 (wrap64 (a0 - 1)) true _ A4.out).mono ?_); rintro e w' ⟨rfl, ⟨nd, rfl⟩⟩; refine ⟨_, rfl, ?_⟩; refine halt ?_))
   by_cases c7 : t245 = true
   ·subst c7
    rw [if_pos rfl] at H
    obtain ⟨t246, A8, H⟩ := ob H
    (try dsimp only at H)
    obtain rfl := Option.some.inj H
    refine Aside0.mk ?_
    try go_wp2_with (first | (go_at_call 32; (with_reducible refine (spec_l1In.calls a1_2 0 20 true _ A6.out).mono ?_); rintro e w' ⟨rfl, ⟨nd, rfl⟩⟩) | (go_at_call 32; (with_reducible refine (spec_l1In.calls a1_3 0 1 t246 _ A8.out).mono ?_); rintro e w' ⟨rfl, ⟨nd, rfl⟩⟩))
    go_ret
    exact ⟨rs, bw⟩
   replace c7 := Bool.eq_false_iff.mpr c7
   subst c7
   rw [if_neg (show ¬ (false = true) by decide)] at H
   obtain rfl := Option.some.inj H
   refine Aside0.mk ?_
   try go_wp2_with ((go_at_call 32; (with_reducible refine (spec_l1In.calls a1_2 0 20 false _ A6.out).mono ?_); rintro e w' ⟨rfl, ⟨nd, rfl⟩⟩))
   go_ret
   exact ⟨rs, bw⟩
  replace c5 := Bool.eq_false_iff.mpr c5
  subst c5
  rw [if_neg (show ¬ (false = true) by decide)] at H
  obtain rfl := Option.some.inj H
  refine Aside0.mk ?_
  try go_wp2_with (((with_reducible refine gc 32 ?_); refine gl (some 13) Tryz.func32 #[.int .i64 a1_1, .int .i64 0, .int .i64 (wrap64 (a0 - 1))] ?_; (with_reducible refine (spec_l1In.calls a1_1 0 (wrap64 (a0 - 1)) false _ A4.out).mono ?_); rintro e w' ⟨rfl, ⟨nd, rfl⟩⟩; refine ⟨_, rfl, ?_⟩))
  go_ret
  exact ⟨rs, bw⟩
 rw [if_neg c3] at H
 have c3b0 : (a1_0 == 0) = false := beq_eq_false_iff_ne.mpr c3
 have c3b1 : (a1_0 != 0) = true := bne_iff_ne.mpr c3
 by_cases c15 : a1_0 = 1
 ·rw [if_pos c15] at H
  have c15b0 : (a1_0 == 1) = true := beq_iff_eq.mpr c15
  have c15b1 : (a1_0 != 1) = false := bne_eq_false_iff_eq.mpr c15
  clear c15
  by_cases c16 : a1_1 = 0
  ·rw [if_pos c16] at H
   have c16b0 : (a1_1 == 0) = true := beq_iff_eq.mpr c16
   have c16b1 : (a1_1 != 0) = false := bne_eq_false_iff_eq.mpr c16
   clear c16
   go_enter Tryz.func50, Tryz.ntmps50
   go_wp2_with (((with_reducible refine gd 3 ?_); refine bx 3 26 #[.int .i64 a1_0, .int .i64 a1_1, .int .i64 a1_2, .int .i64 a1_3] ?_; intro gb243 hg w19 hbox hb; have BK243 := hbox; have GW243 := gs hg; have GE243 := gs hg; replace HB := bs hb; clear hb hbox hg; have hz20 := z4 BK243; refine halt ?_))
   by_cases c17 : a1_2 = 0
   ·rw [if_pos c17] at H
    have c17b0 : (a1_2 == 0) = true := beq_iff_eq.mpr c17
    have c17b1 : (a1_2 != 0) = false := bne_eq_false_iff_eq.mpr c17
    clear c17
    obtain ⟨t247, A18, H⟩ := ob H
    (try dsimp only at H)
    obtain rfl := Option.some.inj H
    refine Aside0.mk ?_
    try go_wp2_with ((go_at_call 32; (with_reducible refine (spec_l1In.calls a1_3 0 a0 t247 _ A18.out).mono ?_); rintro e w' ⟨rfl, ⟨nd, rfl⟩⟩))
    go_ret
    exact ⟨rs, bw⟩
   rw [if_neg c17] at H
   have c17b0 : (a1_2 == 0) = false := beq_eq_false_iff_ne.mpr c17
   have c17b1 : (a1_2 != 0) = true := bne_iff_ne.mpr c17
   obtain rfl := Option.some.inj H
   refine Aside0.mk ?_
   try go_wp2
   go_ret
   exact ⟨rs, bw⟩
  rw [if_neg c16] at H
  have c16b0 : (a1_1 == 0) = false := beq_eq_false_iff_ne.mpr c16
  have c16b1 : (a1_1 != 0) = true := bne_iff_ne.mpr c16
  obtain rfl := Option.some.inj H
  go_enter Tryz.func50, Tryz.ntmps50
  go_wp2_with (first | ((with_reducible refine gd 3 ?_); refine bx 3 26 #[.int .i64 a1_0, .int .i64 a1_1, .int .i64 a1_2, .int .i64 a1_3] ?_; intro gb243 hg w23 hbox hb; have BK243 := hbox; have GW243 := gs hg; have GE243 := gs hg; replace HB := bs hb; clear hb hbox hg; obtain ⟨hcz24_0, hcz24_1, hcz24_2, hcz24_3, hfz24_0, hfz24_1, hfz24_2, hfz24_3⟩ := z4 BK243))
  go_ret
  exact ⟨rs, bw⟩
 rw [if_neg c15] at H
 have c15b0 : (a1_0 == 1) = false := beq_eq_false_iff_ne.mpr c15
 have c15b1 : (a1_0 != 1) = true := bne_iff_ne.mpr c15
 by_cases c25 : a1_0 = 2
 ·rw [if_pos c25] at H
  have c25b0 : (a1_0 == 2) = true := beq_iff_eq.mpr c25
  have c25b1 : (a1_0 != 2) = false := bne_eq_false_iff_eq.mpr c25
  clear c25
  by_cases c26 : a1_1 = 0
  ·rw [if_pos c26] at H
   have c26b0 : (a1_1 == 0) = true := beq_iff_eq.mpr c26
   have c26b1 : (a1_1 != 0) = false := bne_eq_false_iff_eq.mpr c26
   clear c26
   go_enter Tryz.func50, Tryz.ntmps50
   go_wp2_with (((with_reducible refine gd 3 ?_); refine bx 3 26 #[.int .i64 a1_0, .int .i64 a1_1, .int .i64 a1_2, .int .i64 a1_3] ?_; intro gb243 hg w29 hbox hb; have BK243 := hbox; have GW243 := gs hg; have GE243 := gs hg; replace HB := bs hb; clear hb hbox hg; have hz30 := z4 BK243; refine halt ?_))
   by_cases c27 : a1_2 = 0
   ·rw [if_pos c27] at H
    have c27b0 : (a1_2 == 0) = true := beq_iff_eq.mpr c27
    have c27b1 : (a1_2 != 0) = false := bne_eq_false_iff_eq.mpr c27
    clear c27
    obtain ⟨t248, A28, H⟩ := ob H
    (try dsimp only at H)
    obtain rfl := Option.some.inj H
    refine Aside0.mk ?_
    try go_wp2_with ((go_at_call 32; (with_reducible refine (spec_l1In.calls a1_3 0 20 t248 _ A28.out).mono ?_); rintro e w' ⟨rfl, ⟨nd, rfl⟩⟩))
    go_ret
    exact ⟨rs, bw⟩
   rw [if_neg c27] at H
   have c27b0 : (a1_2 == 0) = false := beq_eq_false_iff_ne.mpr c27
   have c27b1 : (a1_2 != 0) = true := bne_iff_ne.mpr c27
   obtain rfl := Option.some.inj H
   refine Aside0.mk ?_
   try go_wp2
   go_ret
   exact ⟨rs, bw⟩
  rw [if_neg c26] at H
  have c26b0 : (a1_1 == 0) = false := beq_eq_false_iff_ne.mpr c26
  have c26b1 : (a1_1 != 0) = true := bne_iff_ne.mpr c26
  obtain rfl := Option.some.inj H
  go_enter Tryz.func50, Tryz.ntmps50
  go_wp2_with (first | ((with_reducible refine gd 3 ?_); refine bx 3 26 #[.int .i64 a1_0, .int .i64 a1_1, .int .i64 a1_2, .int .i64 a1_3] ?_; intro gb243 hg w33 hbox hb; have BK243 := hbox; have GW243 := gs hg; have GE243 := gs hg; replace HB := bs hb; clear hb hbox hg; have hz34 := z4 BK243))
  go_ret
  exact ⟨rs, bw⟩
 rw [if_neg c25] at H
 have c25b0 : (a1_0 == 2) = false := beq_eq_false_iff_ne.mpr c25
 have c25b1 : (a1_0 != 2) = true := bne_iff_ne.mpr c25
 by_cases c35 : a1_0 = 3
 ·rw [if_pos c35] at H
  have c35b0 : (a1_0 == 3) = true := beq_iff_eq.mpr c35
  have c35b1 : (a1_0 != 3) = false := bne_eq_false_iff_eq.mpr c35
  clear c35
  by_cases c36 : a1_1 = 0
  ·rw [if_pos c36] at H
   have c36b0 : (a1_1 == 0) = true := beq_iff_eq.mpr c36
   have c36b1 : (a1_1 != 0) = false := bne_eq_false_iff_eq.mpr c36
   clear c36
   go_enter Tryz.func50, Tryz.ntmps50
   go_wp2_with (((with_reducible refine gd 3 ?_); refine bx 3 26 #[.int .i64 a1_0, .int .i64 a1_1, .int .i64 a1_2, .int .i64 a1_3] ?_; intro gb243 hg w39 hbox hb; have BK243 := hbox; have GW243 := gs hg; have GE243 := gs hg; replace HB := bs hb; clear hb hbox hg; have hz40 := z4 BK243; refine halt ?_))
   by_cases c37 : a1_2 = 0
   ·rw [if_pos c37] at H
    have c37b0 : (a1_2 == 0) = true := beq_iff_eq.mpr c37
    have c37b1 : (a1_2 != 0) = false := bne_eq_false_iff_eq.mpr c37
    clear c37
    obtain ⟨t249, A38, H⟩ := ob H
    (try dsimp only at H)
    obtain rfl := Option.some.inj H
    refine Aside0.mk ?_
    try go_wp2_with ((go_at_call 32; (with_reducible refine (spec_l1In.calls a1_3 0 8 t249 _ A38.out).mono ?_); rintro e w' ⟨rfl, ⟨nd, rfl⟩⟩))
    go_ret
    exact ⟨rs, bw⟩
   rw [if_neg c37] at H
   have c37b0 : (a1_2 == 0) = false := beq_eq_false_iff_ne.mpr c37
   have c37b1 : (a1_2 != 0) = true := bne_iff_ne.mpr c37
   obtain rfl := Option.some.inj H
   refine Aside0.mk ?_
   try go_wp2
   go_ret
   exact ⟨rs, bw⟩
  rw [if_neg c36] at H
  have c36b0 : (a1_1 == 0) = false := beq_eq_false_iff_ne.mpr c36
  have c36b1 : (a1_1 != 0) = true := bne_iff_ne.mpr c36
  obtain rfl := Option.some.inj H
  go_enter Tryz.func50, Tryz.ntmps50
  go_wp2_with (first | ((with_reducible refine gd 3 ?_); refine bx 3 26 #[.int .i64 a1_0, .int .i64 a1_1, .int .i64 a1_2, .int .i64 a1_3] ?_; intro gb243 hg w43 hbox hb; have BK243 := hbox; have GW243 := gs hg; have GE243 := gs hg; replace HB := bs hb; clear hb hbox hg; have hz44 := z4 BK243))
  go_ret
  exact ⟨rs, bw⟩
 rw [if_neg c35] at H
 have c35b0 : (a1_0 == 3) = false := beq_eq_false_iff_ne.mpr c35
 have c35b1 : (a1_0 != 3) = true := bne_iff_ne.mpr c35
 by_cases c45 : a1_0 = 4
 ·rw [if_pos c45] at H
  have c45b0 : (a1_0 == 4) = true := beq_iff_eq.mpr c45
  have c45b1 : (a1_0 != 4) = false := bne_eq_false_iff_eq.mpr c45
  clear c45
  obtain ⟨t250, A46, H⟩ := ob H
  (try dsimp only at H)
  go_enter Tryz.func50, Tryz.ntmps50
  go_wp2_with (((with_reducible refine gd 3 ?_); refine bx 3 26 #[.int .i64 a1_0, .int .i64 a1_1, .int .i64 a1_2, .int .i64 a1_3] ?_; intro gb243 hg w50 hbox hb; have BK243 := hbox; have GW243 := gs hg; have GE243 := gs hg; replace HB := bs hb; clear hb hbox hg; have hz51 := z4 BK243; refine halt ?_))
  by_cases c47 : t250 = true
  ·subst c47
   rw [if_pos rfl] at H
   refine Aside0.mk ?_
   try go_wp2_with (((with_reducible refine gc 32 ?_); refine gl (some 76) Tryz.func32 #[.int .i64 a1_1, .int .i64 0, .int .i64 (wrap64 (a0 - 1))] ?_; (with_reducible refine (spec_l1In.calls a1_1 0 (wrap64 (a0 - 1)) true _ A46.out).mono ?_); rintro e w' ⟨rfl, ⟨nd, rfl⟩⟩; refine ⟨_, rfl, ?_⟩; refine halt ?_))
   by_cases c48 : a1_2 = 0
   ·rw [if_pos c48] at H
    have c48b0 : (a1_2 == 0) = true := beq_iff_eq.mpr c48
    have c48b1 : (a1_2 != 0) = false := bne_eq_false_iff_eq.mpr c48
    clear c48
    obtain ⟨t251, A49, H⟩ := ob H
    (try dsimp only at H)
    obtain rfl := Option.some.inj H
    refine Aside0.mk ?_
    try go_wp2_with ((go_at_call 32; (with_reducible refine (spec_l1In.calls a1_3 0 20 t251 _ A49.out).mono ?_); rintro e w' ⟨rfl, ⟨nd, rfl⟩⟩))
    go_ret
    exact ⟨rs, bw⟩
   rw [if_neg c48] at H
   have c48b0 : (a1_2 == 0) = false := beq_eq_false_iff_ne.mpr c48
   have c48b1 : (a1_2 != 0) = true := bne_iff_ne.mpr c48
   obtain rfl := Option.some.inj H
   refine Aside0.mk ?_
   try go_wp2
   go_ret
   exact ⟨rs, bw⟩
  replace c47 := Bool.eq_false_iff.mpr c47
  subst c47
  rw [if_neg (show ¬ (false = true) by decide)] at H
  obtain rfl := Option.some.inj H
  refine Aside0.mk ?_
  try go_wp2_with (((with_reducible refine gc 32 ?_); refine gl (some 76) Tryz.func32 #[.int .i64 a1_1, .int .i64 0, .int .i64 (wrap64 (a0 - 1))] ?_; (with_reducible refine (spec_l1In.calls a1_1 0 (wrap64 (a0 - 1)) false _ A46.out).mono ?_); rintro e w' ⟨rfl, ⟨nd, rfl⟩⟩; refine ⟨_, rfl, ?_⟩))
  go_ret
  exact ⟨rs, bw⟩
 rw [if_neg c45] at H
 have c45b0 : (a1_0 == 4) = false := beq_eq_false_iff_ne.mpr c45
 have c45b1 : (a1_0 != 4) = true := bne_iff_ne.mpr c45
 obtain rfl := Option.some.inj H
 go_enter Tryz.func50, Tryz.ntmps50
 go_wp2_with (first | ((with_reducible refine gd 3 ?_); refine bx 3 26 #[.int .i64 a1_0, .int .i64 a1_1, .int .i64 a1_2, .int .i64 a1_3] ?_; intro gb243 hg w56 hbox hb; have BK243 := hbox; have GW243 := gs hg; have GE243 := gs hg; replace HB := bs hb; clear hb hbox hg; have hz57 := z4 BK243))
 go_ret
 exact ⟨rs, bw⟩

/-! ### spec_pzSoldiers: function 52 -/
def spec_pzSoldiers.f (a0 : Int) : Option (Bool) := (spec_l1In.f a0 1 8).bind fun t252 => (some t252)
set_option maxHeartbeats 8000000 in
set_option maxRecDepth 100000 in
theorem spec_pzSoldiers.calls (a0 : Int) (r : Bool) (w : World) (h : spec_pzSoldiers.f a0 = some r) :
  Calls Tryz.prog 52 #[.int .i64 a0] w fun e w' => e = .returned (.bool r) ∧ Drawn0 w w' := by
 unfold spec_pzSoldiers.f at h
 have H := h
 clear h
 obtain ⟨t252, A2, H⟩ := ob H
 (try dsimp only at H)
 obtain rfl := Option.some.inj H
 go_enter Tryz.func52, Tryz.ntmps52
 go_wp2_with (first | ((with_reducible refine gc 32 ?_); refine gl (some 4) Tryz.func32 #[.int .i64 a0, .int .i64 1, .int .i64 8] ?_; (with_reducible refine (spec_l1In.calls a0 1 8 t252 _ A2.out).mono ?_); rintro e w' ⟨rfl, ⟨nd, rfl⟩⟩; refine ⟨_, rfl, ?_⟩))
 go_ret
 exact ⟨rs, by repeat (first | exact Drawn0.refl _ | apply Drawn0.step)⟩

end Go.Proofs.YtonhhfhlhlifcaaGreatDoor.PFnRowsHiddenOfAll
