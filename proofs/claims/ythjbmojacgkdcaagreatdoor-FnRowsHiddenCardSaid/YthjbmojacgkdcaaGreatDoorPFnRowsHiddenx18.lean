-- Laid by xprint, a program of this session that runs over the kit's print.
import Derived.Test.YthjbmojacgkdcaaGreatDoorPFnRowsHiddenx17
namespace Go.Proofs.YthjbmojacgkdcaaGreatDoor.PFnRowsHidden
open Go.RowKit Go.Proofs.YthjbmojacgkdcaaGreatDoorW.PrintWords Go.Proofs.YthjbmojacgkdcaaGreatDoorW.PrintLast Go.Proofs.YthjbmojacgkdcaaGreatDoorW.PrintMore Go.Proofs.YthjbmojacgkdcaaGreatDoor.Sq
attribute [local go_sem] max2_int min2_int max_two min_two max_three min_three max_four min_four   -- for this text's walks alone
set_option linter.unusedVariables false
set_option linter.unusedSimpArgs false

/-! ### spec_DropClue: function 27 -/
def spec_DropClue.f (k : Nat) (a0_0 : Int) (l0_1 : List (S37)) (a1 : Int) : Option (Int × (List (S37)) × Bool) := (spec_pzGood.f k a0_0 l0_1).bind fun t562 => (if t562 = true then ((spec_l1In.f a1 0 (wrap64 ((l0_1.length : Int) - 1))).bind fun t563 => (if t563 = true then ((spec_pzWithout.f l0_1 a1).bind fun t564 => (some (a0_0, t564, true))) else (some (0, ([] : List (S37)), false)))) else (some (0, ([] : List (S37)), false)))
theorem spec_DropClue.mono : ∀ a0 a1 a2 k, LeO (spec_DropClue.f k a0 a1 a2) (spec_DropClue.f (k + 1) a0 a1 a2) := by
  intro a0 a1 a2 k
  unfold spec_DropClue.f
  repeat' first
      | (with_reducible exact spec_pzGood.mono _ _ _)
      | (with_reducible exact LeO.refl _)
      | (with_reducible exact LeO.none _)
      | (with_reducible refine LeO.ite ?_ ?_)
      | (with_reducible refine LeO.bind ?_ (fun _ => ?_))
      | exact spec_pzGood.mono _ _ _
      | exact LeO.none _
      | refine LeO.ite ?_ ?_
      | refine LeO.bind ?_ (fun _ => ?_)
def spec_DropClue.T3 : Bool × List (List Nat × List Nat) := (true, [([], []), ([0], [0]), ([], []), ([2], [2]), ([], []), ([3, 4], [3, 4]), ([1, 5], [1, 5]), ([6, 5, 0, 1, 2, 3, 4, 5, 6], [6]), ([7, 0, 1, 2, 3, 4, 5, 6, 7], [])])
def spec_DropClue.B3 : List Nat := [0, 1, 0, 4, 0, 28, 63, 127, 255]
theorem spec_DropClue.tab3 : rtab .any (opsOf Tryz.f27 3) = spec_DropClue.T3 := by kernel_rfl
theorem spec_DropClue.bits3 : waitsOk spec_DropClue.T3.2 spec_DropClue.B3 = true := by kernel_rfl
set_option maxHeartbeats 8000000 in
set_option maxRecDepth 100000 in
theorem spec_DropClue.calls (k : Nat) (a0_0 : Int) (A0_1 : Option Addr) (c0_1 : Nat) (l0_1 : List (S37)) (a1 : Int) (r1 : Int) (r2 : List (S37)) (r3 : Bool) (w : World) (hr0_1 : Kd.C k37 w A0_1 l0_1.length l0_1) (hc0_1 : l0_1.length ≤ c0_1) (h : spec_DropClue.f k a0_0 l0_1 a1 = some (r1, r2, r3)) :
  Calls Tryz.prog 27 #[.agg #[.int .i64 a0_0, .slice A0_1 l0_1.length c0_1], .int .i64 a1] w fun e w' => ∃ v1_ : Value, e = .returned (.tuple #[.agg #[.int .i64 r1, v1_], .bool r3]) ∧ Kd.R k37 37 w' w.heap.size (fun _ => True) v1_ r2 ∧ Below w.heap.size w w' := by
 have hu28 := Tryz.underlying28
 have HR0_1 := Aside0.mk hr0_1
 have HC0_1 := Aside0.mk hc0_1
 clear hr0_1 hc0_1
 have HB := Aside0.mk (Below.refl w.heap.size w)
 unfold spec_DropClue.f at h
 have H := h
 clear h
 obtain ⟨t562, A3, H⟩ := ob H
 (try dsimp only at H)
 go_enter Tryz.func27, Tryz.ntmps27
 try go_wp2_with (first | ((with_reducible refine gd 2 ?_); (try (refine gate_guard (by rfl) ?_; dsimp only)); refine bx 2 28 #[.int .i64 a0_0, .slice A0_1 l0_1.length c0_1] ?_; intro gb560 hg w8 hbox hb; have BK560 := hbox; have GW560 := gs hg; have GE560 := gs hg; replace HB := bs hb; clear hb hbox hg) | ((with_reducible refine gd 4 ?_); (try (refine gate_guard (by rfl) ?_; dsimp only)); refine bx 4 28 #[.int .i64 0, .slice none 0 0] ?_; intro gb561 hg w9 hbox hb; have BK561 := hbox; have GW561 := gs hg; have GE561 := gs hg; replace HB := bs hb; have ⟨NB560_561, NB561_560⟩ := nn BK560 hg; replace BK560 := nk BK560 hb; clear hb hbox hg; have hnb10 := nb NB560_561; obtain ⟨hcz11_0, hcz11_1, hfz11_0, hfz11_1⟩ := z2 BK560; refine halt ?_))
 by_cases c4 : t562 = true
 ·subst c4
  rw [if_pos rfl] at H
  obtain ⟨t563, A5, H⟩ := ob H
  (try dsimp only at H)
  refine Aside0.mk ?_
  try go_wp2_with (((with_reducible refine gc 61 ?_); refine gl (some 7) Tryz.func61 #[.agg #[.int .i64 a0_0, .slice A0_1 l0_1.length c0_1]] ?_; (with_reducible refine (spec_pzGood.calls k a0_0 _ _ l0_1 true _ ?_ ?_ A3.out).mono ?_); exact cb HR0_1; exact HC0_1.out; rintro e w12 ⟨rfl, hb⟩; refine ⟨_, rfl, ?_⟩; replace BK560 := nk BK560 hb; replace BK561 := nk BK561 hb; replace HB := bs hb; (try clear hb); have hz13 := z2 BK560; refine halt ?_))
  by_cases c6 : t563 = true
  ·subst c6
   rw [if_pos rfl] at H
   obtain ⟨t564, A7, H⟩ := ob H
   (try dsimp only at H)
   simp only [Option.some.injEq, Prod.mk.injEq] at H
   obtain ⟨rfl, rfl, rfl⟩ := H
   refine Aside0.mk ?_
   try go_wp2_with ((go_at_call 44; (with_reducible refine (spec_l1In.calls a1 0 (wrap64 ((l0_1.length : Int) - 1)) true _ A5.out).mono ?_); rintro e w' ⟨rfl, ⟨nd, rfl⟩⟩; (try (rw [drewN_self w12]; generalize hq_ : World.drewN w12 _ = w12; have n0_ : Aside0 (w12.heap[gb560]? = some (.cells #[.int .i64 a0_0, .slice A0_1 l0_1.length c0_1] 28 (0, 0))) := ⟨by rw [← hq_]; exact (pk BK560)⟩; have n1_ : Aside0 (w12.heap[gb561]? = some (.cells #[.int .i64 0, .slice none 0 0] 28 (0, 0))) := ⟨by rw [← hq_]; exact (pk BK561)⟩; have n2_ : Aside0 (Below w.heap.size w w12) := ⟨by rw [← hq_]; exact bw⟩; clear BK560 BK561 HB hq_; have BK560 := n0_; have BK561 := n1_; have HB := n2_; clear n0_ n1_ n2_))))
   replace BK560 := Aside0.mk (blk_drew BK560.out)
   replace BK561 := Aside0.mk (blk_drew BK561.out)
   replace HB := Aside0.mk (below_drew1 HB.out)
   refine start_ (n := 9) (S := fun w' => w'.cell? ⟨gb560, 0, none⟩ = some (.int .i64 a0_0) ∧ w'.cell? ⟨gb560, 1, none⟩ = some (.slice A0_1 l0_1.length c0_1)) (ds := []) (tb 9 0) (by kernel_rfl) rfl rfl ⟨ec BK560, ec BK560⟩ (fun hHeld => ?_); refine with_tabW spec_DropClue.tab3 spec_DropClue.bits3 (fun HT_ HW_ => ?_)
   generalize w12.drew = w14 at BK560 BK561 HB hHeld ⊢
   refine pu 0 (some 19) (tb 9 1) ?_
   refine pu 2 (some 21) (tb 9 5) ?_
   refine pu 4 (some 23) (tb 9 21) ?_
   refine tk 1 (some 20) (tb 9 23) hHeld ?_
   refine tk 3 (some 22) (tb 9 31) hHeld ?_
   refine one_ (i := 5) (N := some 24) (tb 9 63) rfl rfl (one_of HT_.out (by kernel_rfl)) (by decide) (fun K hK => ?_)
   refine go1 Tryz.func63 #[.slice A0_1 l0_1.length c0_1, .int .i64 a1] ?_
   with_reducible refine (spec_pzWithout.calls _ _ l0_1 a1 t564 _ ?side1 ?side2 A7.out).mono ?_
   (case side1 => exact cb HR0_1)
   (case side2 => exact HC0_1.out)
   rintro e w15 ⟨v565, rfl, ho0, hb⟩
   refine ⟨_, rfl, ?_⟩
   have HO566 := Aside0.mk (Kd.R_lower ho0 (below_size bw))
   replace BK560 := nk BK560 hb
   replace BK561 := nk BK561 hb
   replace HB := bs hb
   (try clear hb)
   (try clear ho0)
   obtain ⟨Ao16, co16, eo16⟩ := Kd.R_slice HO566.out
   (first | subst eo16 | (injection eo16 with f1_ f2_ f3_; have f4_ := f1_.symm; have f5_ := f3_.symm; clear f1_ f2_ f3_; subst f4_; subst f5_))
   refine hK.out _ _ ⟨ec BK560, ec BK560⟩ (fun hHeld => ?_)
   clear hK K
   refine nm (some 24) ?_
   refine pu 6 (some 25) (tb 9 127) ?_
   refine one_ (i := 7) (N := none) (tb 9 255) rfl rfl (one_of HT_.out (by kernel_rfl)) (by decide) (fun K hK => ?_)
   have hs17 : w15.cell? ⟨gb561, 0, none⟩ = some (.int .i64 0) := ec BK561
   have hfs17 := blk_frozen BK561.out 0
   have hns17_0 := NB560_561.out
   have hms17_0 := NB561_560.out
   have hs18 : w15.cell? ⟨gb561, 1, none⟩ = some (.slice none 0 0) := ec BK561
   have hfs18 := blk_frozen BK561.out 1
   have hns18_0 := NB560_561.out
   have hms18_0 := NB561_560.out
   refine skip_ (w1 := ?_) (by rfl) rfl ?_ ?_
   rotate_left
   ·go_simp
    rfl
   refine hK.out _ _ ⟨((cell_far (p := ⟨gb561, _, none⟩) NB560_561.out _).trans (((cell_far (p := ⟨gb561, _, none⟩) NB560_561.out _).trans (hHeld.1)))), ((cell_far (p := ⟨gb561, _, none⟩) NB560_561.out _).trans (((cell_far (p := ⟨gb561, _, none⟩) NB560_561.out _).trans (hHeld.2))))⟩ (fun hHeld => ?_)
   clear hK K
   refine pu 8 (some 5) (tb 9 511) ?_
   refine done_ (done_of HT_.out (by kernel_rfl)) ?_
   try go_wp2
   refine bodyPost_ret (results_ct rfl _ _ gb561 28 #[.int .i64 a0_0, .slice Ao16 t564.length co16] (0, 0) _ rfl (pz BK561) Tryz.underlying28 rfl (by kernel_rfl)) rfl ?_
   exact ⟨_, rs, by (with_reducible repeat (first | apply Kd.R_alloc | apply Kd.R_drewN | apply Kd.R_drew)); exact Kd.R_mono (Kd.R_far (p := ⟨gb561, 1, none⟩) (Kd.R_far (p := ⟨gb561, 0, none⟩) (Kd.R_types HO566.out BK561.out (by decide)) (fun _ hk => hk.2) (.int .i64 a0_0)) (fun _ hk => hk.2) (.slice Ao16 t564.length co16)) (fun _ hk => trivial), bw⟩
  replace c6 := Bool.eq_false_iff.mpr c6
  subst c6
  rw [if_neg (show ¬ (false = true) by decide)] at H
  simp only [Option.some.injEq, Prod.mk.injEq] at H
  obtain ⟨rfl, rfl, rfl⟩ := H
  refine Aside0.mk ?_
  try go_wp2_with ((go_at_call 44; (with_reducible refine (spec_l1In.calls a1 0 (wrap64 ((l0_1.length : Int) - 1)) false _ A5.out).mono ?_); rintro e w' ⟨rfl, ⟨nd, rfl⟩⟩; (try (rw [drewN_self w12]; generalize hq_ : World.drewN w12 _ = w12; have n0_ : Aside0 (w12.heap[gb561]? = some (.cells #[.int .i64 0, .slice none 0 0] 28 (0, 0))) := ⟨by rw [← hq_]; exact (pk BK561)⟩; have n1_ : Aside0 (Below w.heap.size w w12) := ⟨by rw [← hq_]; exact bw⟩; clear BK561 HB hq_; have BK561 := n0_; have HB := n1_; clear n0_ n1_)); obtain ⟨hcz25_0, hcz25_1, hfz25_0, hfz25_1⟩ := z2 BK561))
  refine bodyPost_ret (results_ct rfl _ _ gb561 28 #[.int .i64 0, .slice none 0 0] (0, 0) _ rfl (pz BK561) Tryz.underlying28 rfl (by kernel_rfl)) rfl ?_
  exact ⟨_, rs, by first | exact Kd.R_nil _ _ _ _ _ | exact Kd.N_nil _ _ _ _ _ | exact Kd.V_nil _ _ _ _ _ | exact Kd.Q_nil _ _ _ _ _ | exact Kd.S_nil _ _ _ _ _, bw⟩
 replace c4 := Bool.eq_false_iff.mpr c4
 subst c4
 rw [if_neg (show ¬ (false = true) by decide)] at H
 simp only [Option.some.injEq, Prod.mk.injEq] at H
 obtain ⟨rfl, rfl, rfl⟩ := H
 refine Aside0.mk ?_
 try go_wp2_with (((with_reducible refine gc 61 ?_); refine gl (some 7) Tryz.func61 #[.agg #[.int .i64 a0_0, .slice A0_1 l0_1.length c0_1]] ?_; (with_reducible refine (spec_pzGood.calls k a0_0 _ _ l0_1 false _ ?_ ?_ A3.out).mono ?_); exact cb HR0_1; exact HC0_1.out; rintro e w30 ⟨rfl, hb⟩; refine ⟨_, rfl, ?_⟩; replace BK561 := nk BK561 hb; replace HB := bs hb; (try clear hb); have hz31 := z2 BK561))
 refine bodyPost_ret (results_ct rfl _ _ gb561 28 #[.int .i64 0, .slice none 0 0] (0, 0) _ rfl (pz BK561) Tryz.underlying28 rfl (by kernel_rfl)) rfl ?_
 exact ⟨_, rs, by first | exact Kd.R_nil _ _ _ _ _ | exact Kd.N_nil _ _ _ _ _ | exact Kd.V_nil _ _ _ _ _ | exact Kd.Q_nil _ _ _ _ _ | exact Kd.S_nil _ _ _ _ _, bw⟩

/-! ### spec_DrawDoesFit: function 28 -/
def spec_DrawDoesFit.j0 : Nat → ByteArray → Bool → List Int → Int → Int → Int → List (S37) → Option (Int × Int × Int × Int × ByteArray)
  | 0, _, _, _, _, _, _, _ => none
  | k + 1, x5, x24, x569000, x569001, x569002, x581000, x581001 => if x24 = true then (if 0 < (x581001.length : Int) then (some ((rd_T37 x581001 0).f0, (rd_T37 x581001 0).f1, (rd_T37 x581001 0).f2, (rd_T37 x581001 0).f3, x5)) else (none)) else ((spec_l1Cur_one.f x569000 x569001 x569002 10).bind fun bt585 => (if bt585.1 = true then ((spec_l1Cur_of.f x569000 bt585.2.1 bt585.2.2 (([(⟨#[]⟩ : ByteArray), (⟨#[120]⟩ : ByteArray), (⟨#[60, 60, 60, 60, 60, 60, 60, 60, 60]⟩ : ByteArray), (⟨#[62, 62, 62, 62, 60, 60, 60, 60]⟩ : ByteArray)] : List ByteArray))).bind fun bt591 => ((spec_l1Cur_clue.f k x569000 bt591.2.1 bt591.2.2).bind fun bt594 => (some (bt594.1, bt594.2.1, bt594.2.2.1, bt594.2.2.2.1, bt591.1)))) else ((spec_l1Cur_clue.f k x569000 bt585.2.1 bt585.2.2).bind fun bt600 => (some (bt600.1, bt600.2.1, bt600.2.2.1, bt600.2.2.2.1, x5)))))
def spec_DrawDoesFit.f (k : Nat) (l0 : List Int) : Option (Int × Int × Int × Int × ByteArray) := (spec_l1Cur_hidden.f k l0 0 0).bind fun bt569 => ((spec_l1Cur_pick.f l0 bt569.2.1 bt569.2.2 10000).bind fun bt572 => ((spec_MakePuzzle.f k bt569.1 1 bt572.1).bind fun bt575 => (if bt575.2.2 = true then ((spec_l1Cur_one.f l0 bt572.2.1 bt572.2.2 3).bind fun bt581 => (spec_DrawDoesFit.j0 k bt569.1 bt581.1 l0 bt581.2.1 bt581.2.2 bt575.1 bt575.2.1)) else (spec_DrawDoesFit.j0 k bt569.1 false l0 bt572.2.1 bt572.2.2 bt575.1 bt575.2.1))))
theorem spec_DrawDoesFit.mono_l : ∀ k, (∀ y0 y1 y2 y3 y4 y5 y6, LeO (spec_DrawDoesFit.j0 k y0 y1 y2 y3 y4 y5 y6) (spec_DrawDoesFit.j0 (k + 1) y0 y1 y2 y3 y4 y5 y6))
  | 0 => fun _ _ _ _ _ _ _ r h => by simp [spec_DrawDoesFit.j0] at h
  | k + 1 => by
    have ih0 := spec_DrawDoesFit.mono_l k
    · intro y0 y1 y2 y3 y4 y5 y6
      unfold spec_DrawDoesFit.j0
      repeat' first
      | (with_reducible exact ih0 _ _ _ _ _ _ _)
      | (with_reducible exact spec_MakePuzzle.mono _ _ _ _)
      | (with_reducible exact spec_l1Cur_clue.mono _ _ _ _)
      | (with_reducible exact spec_l1Cur_hidden.mono _ _ _ _)
      | (with_reducible exact LeO.refl _)
      | (with_reducible exact LeO.none _)
      | (with_reducible refine LeO.ite ?_ ?_)
      | (with_reducible refine LeO.bind ?_ (fun _ => ?_))
      | exact ih0 _ _ _ _ _ _ _
      | exact spec_MakePuzzle.mono _ _ _ _
      | exact spec_l1Cur_clue.mono _ _ _ _
      | exact spec_l1Cur_hidden.mono _ _ _ _
      | exact LeO.none _
      | refine LeO.ite ?_ ?_
      | refine LeO.bind ?_ (fun _ => ?_)
theorem spec_DrawDoesFit.mono : ∀ a0 k, LeO (spec_DrawDoesFit.f k a0) (spec_DrawDoesFit.f (k + 1) a0) := by
  intro a0 k
  have ih0 := spec_DrawDoesFit.mono_l k
  unfold spec_DrawDoesFit.f
  repeat' first
      | (with_reducible exact ih0 _ _ _ _ _ _ _)
      | (with_reducible exact spec_MakePuzzle.mono _ _ _ _)
      | (with_reducible exact spec_l1Cur_clue.mono _ _ _ _)
      | (with_reducible exact spec_l1Cur_hidden.mono _ _ _ _)
      | (with_reducible exact LeO.refl _)
      | (with_reducible exact LeO.none _)
      | (with_reducible refine LeO.ite ?_ ?_)
      | (with_reducible refine LeO.bind ?_ (fun _ => ?_))
      | exact ih0 _ _ _ _ _ _ _
      | exact spec_MakePuzzle.mono _ _ _ _
      | exact spec_l1Cur_clue.mono _ _ _ _
      | exact spec_l1Cur_hidden.mono _ _ _ _
      | exact LeO.none _
      | refine LeO.ite ?_ ?_
      | refine LeO.bind ?_ (fun _ => ?_)
set_option maxHeartbeats 8000000 in
set_option maxRecDepth 100000 in
theorem spec_DrawDoesFit.calls (k : Nat) (A0 : Option Addr) (c0 : Nat) (l0 : List Int) (r1 : Int) (r2 : Int) (r3 : Int) (r4 : Int) (r5 : ByteArray) (w : World) (hr0 : Kd.C (Kd.int .u8) w A0 l0.length l0) (hc0 : l0.length ≤ c0) (h : spec_DrawDoesFit.f k l0 = some (r1, r2, r3, r4, r5)) :
  Calls Tryz.prog 28 #[.slice A0 l0.length c0] w fun e w' => e = .returned (.tuple #[.agg #[.int .i64 r1, .int .i64 r2, .int .i64 r3, .int .i64 r4], .string r5]) ∧ Below w.heap.size w w' := by
 have hu37 := Tryz.underlying37
 have hu66 := Tryz.underlying66
 have hu28 := Tryz.underlying28
 have HR0 := Aside0.mk hr0
 have HC0 := Aside0.mk hc0
 clear hr0 hc0
 have HB := Aside0.mk (Below.refl w.heap.size w)
 unfold spec_DrawDoesFit.f at h
 have H := h
 clear h
 obtain ⟨⟨t569, t570, t571⟩, A2, H⟩ := ob H
 (try dsimp only at H)
 obtain ⟨⟨t572, t573, t574⟩, A3, H⟩ := ob H
 (try dsimp only at H)
 obtain ⟨⟨t575, t576, t579⟩, A4, H⟩ := ob H
 (try dsimp only at H)
 have HC5 := Aside0.mk H
 clear H
 go_enter Tryz.func28, Tryz.ntmps28
 go_upto_region 4 with (first | ((with_reducible refine gd 2 ?_); refine bx 2 37 #[.int .i64 0, .int .i64 0, .int .i64 0, .int .i64 0] ?_; intro gb567 hg w6 hbox hb; have BK567 := hbox; have GW567 := gs hg; have GE567 := gs hg; replace HB := bs hb; clear hb hbox hg) | ((with_reducible refine gd 10 ?_); refine box_event ?hg (N := 10) ?hd (cs := #[.slice A0 l0.length c0, .int .i64 0, .int .u64 0]) (t := 66) ?hr ?_; (case hd => rfl); (case hg => rfl); (case hr => first | (go_simp; done) | (go_simp; rfl)); intro gb568 hg w7 hbox hb; have GW568 := gs hg; have GE568 := gs hg; have ⟨NB567_568, NB568_567⟩ := nn BK567 hg; replace BK567 := nk BK567 hb; have HI568 := Aside0.mk ((show IsS66 w _ gb568 l0 0 0 from ⟨_, _, hbox, (by rw [hg]; exact (below_size bw)), HR0.out⟩)); replace HB := bs hb; clear hb hbox hg) | ((with_reducible refine gc 36 ?_); refine gl (some 12) Tryz.func36 #[.pointer (some ⟨gb568, 0, none⟩)] ?_; (with_reducible refine (spec_l1Cur_hidden.calls k gb568 l0 0 0 t569 t570 t571 w _ ?_ ?_ A2.out).mono ?_); exact hi66; exact hb66; rintro e w8 ⟨rfl, hi, hb, hk⟩; refine ⟨_, rfl, ?_⟩; replace BK567 := kb hk BK567 NB567_568; replace HB := Aside0.mk (hb); replace HI568 := Aside0.mk (hi); (try clear hb)) | ((with_reducible refine gc 37 ?_); refine gl (some 16) Tryz.func37 #[.pointer (some ⟨gb568, 0, none⟩), .int .i64 10000] ?_; (with_reducible refine (spec_l1Cur_pick.calls gb568 l0 t570 t571 10000 t572 t573 t574 w _ ?_ ?_ A3.out).mono ?_); exact hi66; exact hb66; rintro e w9 ⟨rfl, hi, hb, hk⟩; refine ⟨_, rfl, ?_⟩; replace BK567 := kb hk BK567 NB567_568; replace HB := Aside0.mk (hb); replace HI568 := Aside0.mk (hi); (try clear hb)) | ((with_reducible refine gc 7 ?_); refine gl (some 17) Tryz.func7 #[.string t569, .int .i64 1, .int .i64 t572] ?_; (with_reducible refine (spec_MakePuzzle.calls k t569 1 t572 t575 t576 t579 _ A4.out).mono ?_); rintro e w10 ⟨v577, rfl, ho0, hb⟩; refine ⟨_, rfl, ?_⟩; have HO578 := Aside0.mk (Kd.R_lower (Kd.R_newB ho0 (pk BK567)) (below_size hb66)); replace BK567 := nk BK567 hb; replace HB := bt66 HB hb; replace HI568 := ib66 HI568 hb; (try clear hb); (try clear ho0)) | ((with_reducible refine gd 6 ?_); refine bx 6 28 #[.int .i64 0, .slice none 0 0] ?_; intro gb580 hg w11 hbox hb; replace HO578 := rl HO578 hb; have BK580 := hbox; have GW580 := Aside0.mk ((by rw [hg]; exact (below_size hb66) : w.heap.size ≤ gb580)); have GE580 := Aside0.mk ((by rw [hg]; exact (below_size hb66) : w.heap.size ≤ gb580)); replace HB := bt66 HB hb; have ⟨NB567_580, NB580_567⟩ := nn BK567 hg; replace BK567 := nk BK567 hb; have NB568_580 := Aside0.mk ((by rw [hg]; exact Nat.ne_of_lt (IsS66.lt (show IsS66 w _ gb568 l0 t573 t574 from hi66)) : gb568 ≠ gb580)); have NB580_568 := Aside0.mk ((by rw [hg]; exact Nat.ne_of_gt (IsS66.lt (show IsS66 w _ gb568 l0 t573 t574 from hi66)) : gb580 ≠ gb568)); replace HI568 := ib66 HI568 hb; clear hb hbox hg; have hnb12 := nb NB580_567; have hnb13 := nb NB580_568; obtain ⟨hcz14_0, hcz14_1, hfz14_0, hfz14_1⟩ := z2 BK580; obtain ⟨Ao15, co15, eo15⟩ := Kd.R_slice HO578.out; subst eo15))
 (try simp only [Act.put, List.setIfInBounds_toArray, List.set_cons_zero, List.set_cons_succ])
 go_cut [24] (fun v24 wc => ∃ (kq : Nat) (x24_4 : Bool) (x569001_4 : Int) (x569002_4 : Int), v24 = .bool x24_4 ∧ Aside0 (spec_DrawDoesFit.j0 kq t569 x24_4 l0 x569001_4 x569002_4 t575 t576 = some (r1, r2, r3, r4, r5)) ∧ Aside0 (kq ≤ k) ∧ Aside0 (Kd.R k37 37 wc w.heap.size (fun k_ => k_ ≠ gb567) (.slice Ao15 t576.length co15) t576) ∧ Aside0 (wc.heap[gb567]? = some (.cells #[.int .i64 0, .int .i64 0, .int .i64 0, .int .i64 0] 37 (0, 0))) ∧ Aside0 (wc.heap[gb580]? = some (.cells #[.int .i64 t575, (.slice Ao15 t576.length co15)] 28 (0, 0))) ∧ Aside0 (IsS66 w wc gb568 l0 x569001_4 x569002_4) ∧ Aside0 (Below w.heap.size w wc))
 case first =>
  have H := HC5.out
  clear HC5
  by_cases c16 : t579 = true
  ·subst c16
   rw [if_pos rfl] at H
   obtain ⟨⟨t581, t582, t583⟩, A17, H⟩ := ob H
   (try dsimp only at H)
   have H' := Aside0.mk H
   clear H
   go_wp2_with (first | (go_at_call 33; (with_reducible refine (spec_l1Cur_one.calls gb568 l0 t573 t574 3 t581 t582 t583 w _ ?_ ?_ A17.out).mono ?_); exact hi66; exact hb66; rintro e w18 ⟨rfl, hi, hb, hk⟩; replace BK567 := kb hk BK567 NB567_568; replace HO578 := Aside0.mk (Kd.R_mono (Kd.R_keep (IsS66.apart (show IsS66 w _ gb568 l0 t573 t574 from hi66) (qf HO578) (by decide)) hk (fun _ h => h.2)) (fun _ h => h.1)); replace BK580 := kz hk (.cells #[.int .i64 t575, .slice Ao15 t576.length co15] 28 (0, 0)) BK580 NB580_568; replace HB := Aside0.mk (hb); replace HI568 := Aside0.mk (hi); (try clear hb)))
   go_meet
   case rel => exact ⟨_, (t581), (t582), (t583), (rs), H', ⟨by first | omega | exact Nat.le_refl _⟩, ⟨by (with_reducible repeat (first | apply Kd.R_alloc | apply Kd.R_drewN | apply Kd.R_drew)); exact Kd.R_mono HO578.out (fun _ hk => hk.2)⟩, ⟨pk BK567⟩, ⟨pk BK580⟩, ⟨hi66⟩, ⟨hb66⟩⟩
  replace c16 := Bool.eq_false_iff.mpr c16
  subst c16
  rw [if_neg (show ¬ (false = true) by decide)] at H
  have H' := Aside0.mk H
  clear H
  go_wp2
  go_meet
  case rel => exact ⟨_, (false), (t573), (t574), (rs), H', ⟨by first | omega | exact Nat.le_refl _⟩, ⟨by (with_reducible repeat (first | apply Kd.R_alloc | apply Kd.R_drewN | apply Kd.R_drew)); exact Kd.R_mono (Kd.R_far (p := ⟨gb580, 1, none⟩) (Kd.R_far (p := ⟨gb580, 0, none⟩) (Kd.R_types HO578.out BK580.out (by decide)) (fun _ hk => hk.2) (.int .i64 t575)) (fun _ hk => hk.2) (.slice Ao15 t576.length co15)) (fun _ hk => hk.1.2)⟩, ⟨pf BK567⟩, ⟨pz BK580⟩, ⟨hi66⟩, ⟨hb66⟩⟩
 case rest =>
  clear HC5
  try clear c1
  try clear c2
  try clear p2
  try clear c3
  try clear c7
  try clear c12
  try clear c13
  try clear c16
  try clear hcz14_0
  try clear hcz14_1
  try clear hfz14_0
  try clear hfz14_1
  obtain ⟨kq, x24_4, x569001_4, x569002_4, rfl, HA, HJ4, HO_581001, BK567, BK580, HI568, HB⟩ := hcut
  cases kq with
  | zero => exact absurd HA.out (by simp [spec_DrawDoesFit.j0])
  | succ kj4 =>
   have H := HA.out
   clear HA
   simp only [spec_DrawDoesFit.j0] at H
   by_cases c19 : x24_4 = true
   ·subst c19
    rw [if_pos rfl] at H
    obtain ⟨c20, H⟩ := oi H
    have c20b0 := decide_eq_true c20
    have c20b1 : decide (0 < t576.length) = true := decide_eq_true (by omega)
    clear c20
    simp only [Option.some.injEq, Prod.mk.injEq] at H
    obtain ⟨rfl, rfl, rfl, rfl, rfl⟩ := H
    have hnb21 := nb NB580_567
    have hnb22 := nb NB580_568
    have hcz23_0 : wc.cell? ⟨gb580, 0, none⟩ = some (.int .i64 t575) := ec BK580
    have hcz23_1 : wc.cell? ⟨gb580, 1, none⟩ = some (.slice Ao15 t576.length co15) := ec BK580
    have hfz23_0 := blk_frozen BK580.out 0
    have hfz23_1 := blk_frozen BK580.out 1
    have p584 : 0 ≤ (0 : Int) := (by omega)
    have q584 : 0 < (t576.length : Int) := of_decide_eq_true asm
    obtain ⟨ad584, e584, hx584_0, hx584_1, hx584_2, hx584_3⟩ := at_T37 (Kd.R_reads' HO_581001.out).2.2 0 p584 q584
    cases e584
    have qi584 : (0 < t576.length) = True := eq_true (by omega)
    (try rw [show ((0 : Int)).toNat = 0 from rfl] at hx584_0)
    (try rw [show 0 * 4 = 0 from rfl] at hx584_0)
    (try rw [Addr.add_zero'] at hx584_0)
    (try rw [show ((0 : Int)).toNat = 0 from rfl] at hx584_1)
    (try rw [show 0 * 4 = 0 from rfl] at hx584_1)
    (try rw [Addr.add_zero'] at hx584_1)
    (try rw [show ((0 : Int)).toNat = 0 from rfl] at hx584_2)
    (try rw [show 0 * 4 = 0 from rfl] at hx584_2)
    (try rw [Addr.add_zero'] at hx584_2)
    (try rw [show ((0 : Int)).toNat = 0 from rfl] at hx584_3)
    (try rw [show 0 * 4 = 0 from rfl] at hx584_3)
    (try rw [Addr.add_zero'] at hx584_3)
    replace p584 := eq_true p584
    replace q584 := eq_true q584
    have hnb24 := nb NB567_568
    have hcz25_0 : wc.cell? ⟨gb567, 0, none⟩ = some (.int .i64 0) := ec BK567
    have hcz25_1 : wc.cell? ⟨gb567, 1, none⟩ = some (.int .i64 0) := ec BK567
    have hcz25_2 : wc.cell? ⟨gb567, 2, none⟩ = some (.int .i64 0) := ec BK567
    have hcz25_3 : wc.cell? ⟨gb567, 3, none⟩ = some (.int .i64 0) := ec BK567
    have hfz25_0 := blk_frozen BK567.out 0
    have hfz25_1 := blk_frozen BK567.out 1
    have hfz25_2 := blk_frozen BK567.out 2
    have hfz25_3 := blk_frozen BK567.out 3
    go_wp2
    refine bodyPost_ret (results_ct rfl _ _ gb567 37 #[.int .i64 ((rd_T37 t576 0).f0), .int .i64 ((rd_T37 t576 0).f1), .int .i64 ((rd_T37 t576 0).f2), .int .i64 ((rd_T37 t576 0).f3)] (0, 0) _ rfl (pz BK567) Tryz.underlying37 rfl (by kernel_rfl)) rfl ?_
    exact ⟨rs, hb66⟩
   replace c19 := Bool.eq_false_iff.mpr c19
   subst c19
   rw [if_neg (show ¬ (false = true) by decide)] at H
   obtain ⟨⟨t585, t586, t587⟩, A26, H⟩ := ob H
   (try dsimp only at H)
   by_cases c27 : t585 = true
   ·subst c27
    rw [if_pos rfl] at H
    obtain ⟨y588, hy588⟩ : ∃ y_ : List ByteArray, y_ = (([(⟨#[]⟩ : ByteArray), (⟨#[120]⟩ : ByteArray), (⟨#[60, 60, 60, 60, 60, 60, 60, 60, 60]⟩ : ByteArray), (⟨#[62, 62, 62, 62, 60, 60, 60, 60]⟩ : ByteArray)] : List ByteArray)) := ⟨_, rfl⟩
    replace H : ((spec_l1Cur_of.f l0 t586 t587 y588).bind fun bt591 => ((spec_l1Cur_clue.f kj4 l0 bt591.2.1 bt591.2.2).bind fun bt594 => (some (bt594.1, bt594.2.1, bt594.2.2.1, bt594.2.2.2.1, bt591.1)))) = some (r1, r2, r3, r4, r5) := by first | (rw [hy588]; with_reducible exact H) | (have H2_ := (Option.bind_some _ _).symm.trans H; rw [hy588]; with_reducible exact H2_) | (have H2_ := (Option.bind_some _ _).symm.trans H; with_reducible exact H2_) | with_reducible exact H | (rw [hy588]; exact H) | exact H
    have Ny588 := Aside0.mk hy588
    clear hy588
    obtain ⟨⟨t591, t592, t593⟩, A28, H⟩ := ob H
    (try dsimp only at H)
    obtain ⟨⟨t594, t595, t596, t597, t598, t599⟩, A29, H⟩ := ob H
    (try dsimp only at H)
    simp only [Option.some.injEq, Prod.mk.injEq] at H
    obtain ⟨rfl, rfl, rfl, rfl, rfl⟩ := H
    go_wp2_with (first | ((with_reducible refine gc 33 ?_); refine gl (some 31) Tryz.func33 #[.pointer (some ⟨gb568, 0, none⟩), .int .i64 10] ?_; (with_reducible refine (spec_l1Cur_one.calls gb568 l0 x569001_4 x569002_4 10 true t586 t587 w _ ?_ ?_ A26.out).mono ?_); exact hi66; exact hb66; rintro e w30 ⟨rfl, hi, hb, hk⟩; refine ⟨_, rfl, ?_⟩; replace HO_581001 := Aside0.mk (Kd.R_mono (Kd.R_keep (IsS66.apart (show IsS66 w _ gb568 l0 x569001_4 x569002_4 from hi66) (pr HO_581001) (by decide)) hk (fun _ h => h.2)) (fun _ h => h.1)); replace BK567 := kb hk BK567 NB567_568; replace BK580 := kb hk BK580 NB580_568; replace HB := Aside0.mk (hb); replace HI568 := Aside0.mk (hi); (try clear hb)) | ((with_reducible refine gd 33 ?_); refine Kd.R_lit Kd.string _ 9 ?hg (N := 33) ?hd (xs := ([(⟨#[]⟩ : ByteArray), (⟨#[120]⟩ : ByteArray), (⟨#[60, 60, 60, 60, 60, 60, 60, 60, 60]⟩ : ByteArray), (⟨#[62, 62, 62, 62, 60, 60, 60, 60]⟩ : ByteArray)] : List ByteArray)) (inner := [.string (⟨#[]⟩ : ByteArray), .string (⟨#[120]⟩ : ByteArray), .string (⟨#[60, 60, 60, 60, 60, 60, 60, 60, 60]⟩ : ByteArray), .string (⟨#[62, 62, 62, 62, 60, 60, 60, 60]⟩ : ByteArray)]) (ok := fun _ => True) (okp := fun _ => True) ?hr ?hp (fun _ hk => hk) trivial (Below.refl _ _) (Nat.le_refl _) (by simp) ?_; (case hd => rfl); (case hg => rfl); (case hr => first | (go_simp; done) | (go_simp; rfl)); (case hp => exact (Reps.one (show Kd.M Kd.string _ _ _ (⟨#[]⟩ : ByteArray) [.string (⟨#[]⟩ : ByteArray)] from rfl) (Reps.one (show Kd.M Kd.string _ _ _ (⟨#[120]⟩ : ByteArray) [.string (⟨#[120]⟩ : ByteArray)] from rfl) (Reps.one (show Kd.M Kd.string _ _ _ (⟨#[60, 60, 60, 60, 60, 60, 60, 60, 60]⟩ : ByteArray) [.string (⟨#[60, 60, 60, 60, 60, 60, 60, 60, 60]⟩ : ByteArray)] from rfl) (Reps.one (show Kd.M Kd.string _ _ _ (⟨#[62, 62, 62, 62, 60, 60, 60, 60]⟩ : ByteArray) [.string (⟨#[62, 62, 62, 62, 60, 60, 60, 60]⟩ : ByteArray)] from rfl) (Reps.none _ _)))))); intro v589 w31 ho32 hb hg_ hnew_; clear hg_ hnew_; (first | rw [← Ny588.out] at ho32 | (simp only [Int.reduceToNat] at ho32; rw [← Ny588.out] at ho32)); replace HO_581001 := rl HO_581001 hb; have HO590 := Aside0.mk (Kd.R_lower ho32 (below_size hb66)); replace BK567 := nk BK567 hb; replace HB := bt66 HB hb; replace HI568 := ib66 HI568 hb; clear hb ho32; obtain ⟨Ao33, co33, eo33⟩ := Kd.R_slice HO590.out; subst eo33) | ((with_reducible refine gc 34 ?_); refine gl (some 34) Tryz.func34 #[.pointer (some ⟨gb568, 0, none⟩), .slice Ao33 y588.length co33] ?_; (with_reducible refine (spec_l1Cur_of.calls gb568 l0 t586 t587 _ _ y588 t591 t592 t593 w _ ?_ ?_ ?_ ?_ ?_ A28.out).mono ?_); exact hi66; exact hb66; exact rr HO590; exact rn HO590; exact far_slice (IsS66.own_ne HI568.out HO590.out (by decide)); rintro e w34 ⟨rfl, hi, hb, hk⟩; refine ⟨_, rfl, ?_⟩; replace HO_581001 := Aside0.mk (Kd.R_mono (Kd.R_keep (IsS66.apart (show IsS66 w _ gb568 l0 t586 t587 from hi66) (pr HO_581001) (by decide)) hk (fun _ h => h.2)) (fun _ h => h.1)); replace BK567 := kb hk BK567 NB567_568; replace HO590 := Aside0.mk (Kd.R_mono (Kd.R_keep (IsS66.apart (show IsS66 w _ gb568 l0 t586 t587 from hi66) (pr HO590) (by decide)) hk (fun _ h => h.2)) (fun _ h => h.1)); replace HB := Aside0.mk (hb); replace HI568 := Aside0.mk (hi); (try clear hb)) | ((with_reducible refine gc 64 ?_); refine gl (some 36) Tryz.func64 #[.pointer (some ⟨gb568, 0, none⟩)] ?_; (with_reducible refine (spec_l1Cur_clue.calls kj4 gb568 l0 t592 t593 t594 t595 t596 t597 t598 t599 w _ ?_ ?_ A29.out).mono ?_); exact hi66; exact hb66; rintro e w35 ⟨rfl, hi, hb, hk⟩; refine ⟨_, rfl, ?_⟩; replace HO_581001 := Aside0.mk (Kd.R_mono (Kd.R_keep (IsS66.apart (show IsS66 w _ gb568 l0 t592 t593 from hi66) (pr HO_581001) (by decide)) hk (fun _ h => h.2)) (fun _ h => h.1)); replace BK567 := kb hk BK567 NB567_568; replace HO590 := Aside0.mk (Kd.R_mono (Kd.R_keep (IsS66.apart (show IsS66 w _ gb568 l0 t592 t593 from hi66) (pr HO590) (by decide)) hk (fun _ h => h.2)) (fun _ h => h.1)); replace HB := Aside0.mk (hb); replace HI568 := Aside0.mk (hi); (try clear hb); have hnb36 := nb NB567_568; have hz37 := z4 BK567))
    refine bodyPost_ret (results_ct rfl _ _ gb567 37 #[.int .i64 t594, .int .i64 t595, .int .i64 t596, .int .i64 t597] (0, 0) _ rfl (pz BK567) Tryz.underlying37 rfl (by kernel_rfl)) rfl ?_
    exact ⟨rs, hb66⟩
   replace c27 := Bool.eq_false_iff.mpr c27
   subst c27
   rw [if_neg (show ¬ (false = true) by decide)] at H
   obtain ⟨⟨t600, t601, t602, t603, t604, t605⟩, A38, H⟩ := ob H
   (try dsimp only at H)
   simp only [Option.some.injEq, Prod.mk.injEq] at H
   obtain ⟨rfl, rfl, rfl, rfl, rfl⟩ := H
   go_wp2_with (first | ((with_reducible refine gc 33 ?_); refine gl (some 31) Tryz.func33 #[.pointer (some ⟨gb568, 0, none⟩), .int .i64 10] ?_; (with_reducible refine (spec_l1Cur_one.calls gb568 l0 x569001_4 x569002_4 10 false t586 t587 w _ ?_ ?_ A26.out).mono ?_); exact hi66; exact hb66; rintro e w39 ⟨rfl, hi, hb, hk⟩; refine ⟨_, rfl, ?_⟩; replace HO_581001 := Aside0.mk (Kd.R_mono (Kd.R_keep (IsS66.apart (show IsS66 w _ gb568 l0 x569001_4 x569002_4 from hi66) (pr HO_581001) (by decide)) hk (fun _ h => h.2)) (fun _ h => h.1)); replace BK567 := kb hk BK567 NB567_568; replace BK580 := kb hk BK580 NB580_568; replace HB := Aside0.mk (hb); replace HI568 := Aside0.mk (hi); (try clear hb)) | ((with_reducible refine gc 64 ?_); refine gl (some 36) Tryz.func64 #[.pointer (some ⟨gb568, 0, none⟩)] ?_; (with_reducible refine (spec_l1Cur_clue.calls kj4 gb568 l0 t586 t587 t600 t601 t602 t603 t604 t605 w _ ?_ ?_ A38.out).mono ?_); exact hi66; exact hb66; rintro e w40 ⟨rfl, hi, hb, hk⟩; refine ⟨_, rfl, ?_⟩; replace HO_581001 := Aside0.mk (Kd.R_mono (Kd.R_keep (IsS66.apart (show IsS66 w _ gb568 l0 t586 t587 from hi66) (pr HO_581001) (by decide)) hk (fun _ h => h.2)) (fun _ h => h.1)); replace BK567 := kb hk BK567 NB567_568; replace HB := Aside0.mk (hb); replace HI568 := Aside0.mk (hi); (try clear hb); have hnb41 := nb NB567_568; have hz42 := z4 BK567))
   refine bodyPost_ret (results_ct rfl _ _ gb567 37 #[.int .i64 t600, .int .i64 t601, .int .i64 t602, .int .i64 t603] (0, 0) _ rfl (pz BK567) Tryz.underlying37 rfl (by kernel_rfl)) rfl ?_
   exact ⟨rs, hb66⟩

/-! ### spec_DoesFit: function 29 -/
def spec_DoesFit.f (k : Nat) (a0_0 : Int) (a0_1 : Int) (a0_2 : Int) (a0_3 : Int) (a1 : ByteArray) : Option (Bool × Bool) := (spec_pzHidden.f k a1).bind fun t607 => (if t607 = true then ((spec_pzClue.f (a1.size : Int) a0_0 a0_1 a0_2 a0_3).bind fun t608 => (if t608 = true then ((spec_pzFits.f k a0_0 a0_1 a0_2 a0_3 a1).bind fun t609 => (some (t609, true))) else (some (false, false)))) else (some (false, false)))
theorem spec_DoesFit.mono : ∀ a0 a1 a2 a3 a4 k, LeO (spec_DoesFit.f k a0 a1 a2 a3 a4) (spec_DoesFit.f (k + 1) a0 a1 a2 a3 a4) := by
  intro a0 a1 a2 a3 a4 k
  unfold spec_DoesFit.f
  repeat' first
      | (with_reducible exact spec_pzFits.mono _ _ _ _ _ _)
      | (with_reducible exact spec_pzHidden.mono _ _)
      | (with_reducible exact LeO.refl _)
      | (with_reducible exact LeO.none _)
      | (with_reducible refine LeO.ite ?_ ?_)
      | (with_reducible refine LeO.bind ?_ (fun _ => ?_))
      | exact spec_pzFits.mono _ _ _ _ _ _
      | exact spec_pzHidden.mono _ _
      | exact LeO.none _
      | refine LeO.ite ?_ ?_
      | refine LeO.bind ?_ (fun _ => ?_)
set_option maxHeartbeats 8000000 in
set_option maxRecDepth 100000 in
theorem spec_DoesFit.calls (k : Nat) (a0_0 : Int) (a0_1 : Int) (a0_2 : Int) (a0_3 : Int) (a1 : ByteArray) (r1 : Bool) (r2 : Bool) (w : World) (h : spec_DoesFit.f k a0_0 a0_1 a0_2 a0_3 a1 = some (r1, r2)) :
  Calls Tryz.prog 29 #[.agg #[.int .i64 a0_0, .int .i64 a0_1, .int .i64 a0_2, .int .i64 a0_3], .string a1] w fun e w' => e = .returned (.tuple #[.bool r1, .bool r2]) ∧ Below w.heap.size w w' := by
 have hu37 := Tryz.underlying37
 have HB := Aside0.mk (Below.refl w.heap.size w)
 unfold spec_DoesFit.f at h
 have H := h
 clear h
 obtain ⟨t607, A3, H⟩ := ob H
 (try dsimp only at H)
 go_enter Tryz.func29, Tryz.ntmps29
 go_wp2_with (((with_reducible refine gd 2 ?_); (try (refine gate_guard (by rfl) ?_; dsimp only)); refine bx 2 37 #[.int .i64 a0_0, .int .i64 a0_1, .int .i64 a0_2, .int .i64 a0_3] ?_; intro gb606 hg w8 hbox hb; have BK606 := hbox; have GW606 := gs hg; have GE606 := gs hg; replace HB := bs hb; clear hb hbox hg; refine halt ?_))
 by_cases c4 : t607 = true
 ·subst c4
  rw [if_pos rfl] at H
  obtain ⟨t608, A5, H⟩ := ob H
  (try dsimp only at H)
  refine Aside0.mk ?_
  try go_wp2_with (((with_reducible refine gc 43 ?_); refine gl (some 7) Tryz.func43 #[.string a1] ?_; (with_reducible refine (spec_pzHidden.calls k a1 true _ A3.out).mono ?_); rintro e w' ⟨rfl, ⟨nd, rfl⟩⟩; refine ⟨_, rfl, ?_⟩; have hz9 := z4 BK606; refine halt ?_))
  by_cases c6 : t608 = true
  ·subst c6
   rw [if_pos rfl] at H
   obtain ⟨t609, A7, H⟩ := ob H
   (try dsimp only at H)
   simp only [Option.some.injEq, Prod.mk.injEq] at H
   obtain ⟨rfl, rfl⟩ := H
   refine Aside0.mk ?_
   try go_wp2_with (first | (go_at_call 65; (with_reducible refine (spec_pzClue.calls (a1.size : Int) a0_0 a0_1 a0_2 a0_3 true _ A5.out).mono ?_); rintro e w10 ⟨rfl, hb⟩; replace BK606 := nk BK606 hb; replace HB := bs hb; (try clear hb); obtain ⟨hcz11_0, hcz11_1, hcz11_2, hcz11_3, hfz11_0, hfz11_1, hfz11_2, hfz11_3⟩ := z4 BK606) | ((with_reducible refine gc 66 ?_); refine gl (some 18) Tryz.func66 #[.agg #[.int .i64 a0_0, .int .i64 a0_1, .int .i64 a0_2, .int .i64 a0_3], .string a1] ?_; (with_reducible refine (spec_pzFits.calls k a0_0 a0_1 a0_2 a0_3 a1 t609 _ A7.out).mono ?_); rintro e w12 ⟨rfl, hb⟩; refine ⟨_, rfl, ?_⟩; replace HB := bs hb; (try clear hb)))
   go_ret2
   exact ⟨rs, bw⟩
  replace c6 := Bool.eq_false_iff.mpr c6
  subst c6
  rw [if_neg (show ¬ (false = true) by decide)] at H
  simp only [Option.some.injEq, Prod.mk.injEq] at H
  obtain ⟨rfl, rfl⟩ := H
  refine Aside0.mk ?_
  try go_wp2_with ((go_at_call 65; (with_reducible refine (spec_pzClue.calls (a1.size : Int) a0_0 a0_1 a0_2 a0_3 false _ A5.out).mono ?_); rintro e w15 ⟨rfl, hb⟩; replace HB := bs hb; (try clear hb)))
  go_ret2
  exact ⟨rs, bw⟩
 replace c4 := Bool.eq_false_iff.mpr c4
 subst c4
 rw [if_neg (show ¬ (false = true) by decide)] at H
 simp only [Option.some.injEq, Prod.mk.injEq] at H
 obtain ⟨rfl, rfl⟩ := H
 refine Aside0.mk ?_
 try go_wp2_with (((with_reducible refine gc 43 ?_); refine gl (some 7) Tryz.func43 #[.string a1] ?_; (with_reducible refine (spec_pzHidden.calls k a1 false _ A3.out).mono ?_); rintro e w' ⟨rfl, ⟨nd, rfl⟩⟩; refine ⟨_, rfl, ?_⟩))
 go_ret2
 exact ⟨rs, bw⟩

/-! ### spec_DrawIsClue: function 30 -/
def spec_DrawIsClue.f (k : Nat) (l0 : List Int) : Option (Int × Int × Int × Int × Int) := (spec_l1Cur_one.f l0 0 0 4).bind fun bt612 => (if bt612.1 = true then ((spec_l1Cur_among.f l0 bt612.2.1 bt612.2.2 (([(-1), 0, 1, 3, 8, 9, 4611686018427387904] : List Int))).bind fun bt618 => ((spec_l1Cur_pick.f l0 bt618.2.1 bt618.2.2 6).bind fun bt621 => ((spec_l1Cur_pick.f l0 bt621.2.1 bt621.2.2 9).bind fun bt624 => ((spec_l1Cur_among.f l0 bt624.2.1 bt624.2.2 (([(-1), 0, 0, 1, 8, 4611686018427387904] : List Int))).bind fun bt630 => ((spec_l1Cur_among.f l0 bt630.2.1 bt630.2.2 (([(-1), 0, 0, 1, 20, 21] : List Int))).bind fun bt636 => ((spec_l1Cur_among.f l0 bt636.2.1 bt636.2.2 (([(-1), 0, 1, 2, 8, 9, 20, 21] : List Int))).bind fun bt642 => (some (bt618.1, wrap64 (bt621.1 - (wrap64 (Int.tdiv bt624.1 8))), bt630.1, bt636.1, bt642.1)))))))) else ((spec_l1Cur_pick.f l0 bt612.2.1 bt612.2.2 7).bind fun bt645 => ((spec_l1Cur_clue.f k l0 bt645.2.1 bt645.2.2).bind fun bt648 => (some (wrap64 (1 + bt645.1), bt648.1, bt648.2.1, bt648.2.2.1, bt648.2.2.2.1)))))
theorem spec_DrawIsClue.mono : ∀ a0 k, LeO (spec_DrawIsClue.f k a0) (spec_DrawIsClue.f (k + 1) a0) := by
  intro a0 k
  unfold spec_DrawIsClue.f
  repeat' first
      | (with_reducible exact spec_l1Cur_clue.mono _ _ _ _)
      | (with_reducible exact LeO.refl _)
      | (with_reducible exact LeO.none _)
      | (with_reducible refine LeO.ite ?_ ?_)
      | (with_reducible refine LeO.bind ?_ (fun _ => ?_))
      | exact spec_l1Cur_clue.mono _ _ _ _
      | exact LeO.none _
      | refine LeO.ite ?_ ?_
      | refine LeO.bind ?_ (fun _ => ?_)
set_option maxHeartbeats 8000000 in
set_option maxRecDepth 100000 in
theorem spec_DrawIsClue.calls (k : Nat) (A0 : Option Addr) (c0 : Nat) (l0 : List Int) (r1 : Int) (r2 : Int) (r3 : Int) (r4 : Int) (r5 : Int) (w : World) (hr0 : Kd.C (Kd.int .u8) w A0 l0.length l0) (hc0 : l0.length ≤ c0) (h : spec_DrawIsClue.f k l0 = some (r1, r2, r3, r4, r5)) :
  Calls Tryz.prog 30 #[.slice A0 l0.length c0] w fun e w' => e = .returned (.tuple #[.int .i64 r1, .agg #[.int .i64 r2, .int .i64 r3, .int .i64 r4, .int .i64 r5]]) ∧ Below w.heap.size w w' := by
 have hu37 := Tryz.underlying37
 have hu66 := Tryz.underlying66
 have HR0 := Aside0.mk hr0
 have HC0 := Aside0.mk hc0
 clear hr0 hc0
 have HB := Aside0.mk (Below.refl w.heap.size w)
 unfold spec_DrawIsClue.f at h
 have H := h
 clear h
 obtain ⟨⟨t612, t613, t614⟩, A2, H⟩ := ob H
 (try dsimp only at H)
 go_enter Tryz.func30, Tryz.ntmps30
 go_wp2_with (first | ((with_reducible refine gd 3 ?_); refine bx 3 37 #[.int .i64 0, .int .i64 0, .int .i64 0, .int .i64 0] ?_; intro gb610 hg w10 hbox hb; have BK610 := hbox; have GW610 := gs hg; have GE610 := gs hg; replace HB := bs hb; clear hb hbox hg) | ((with_reducible refine gd 7 ?_); refine box_event ?hg (N := 7) ?hd (cs := #[.slice A0 l0.length c0, .int .i64 0, .int .u64 0]) (t := 66) ?hr ?_; (case hd => rfl); (case hg => rfl); (case hr => first | (go_simp; done) | (go_simp; rfl)); intro gb611 hg w11 hbox hb; have GW611 := gs hg; have GE611 := gs hg; have ⟨NB610_611, NB611_610⟩ := nn BK610 hg; replace BK610 := nk BK610 hb; have HI611 := Aside0.mk ((show IsS66 w _ gb611 l0 0 0 from ⟨_, _, hbox, (by rw [hg]; exact (below_size bw)), HR0.out⟩)); replace HB := bs hb; clear hb hbox hg; refine halt ?_))
 by_cases c3 : t612 = true
 ·subst c3
  rw [if_pos rfl] at H
  obtain ⟨y615, hy615⟩ : ∃ y_ : List Int, y_ = (([(-1), 0, 1, 3, 8, 9, 4611686018427387904] : List Int)) := ⟨_, rfl⟩
  replace H : ((spec_l1Cur_among.f l0 t613 t614 y615).bind fun bt618 => ((spec_l1Cur_pick.f l0 bt618.2.1 bt618.2.2 6).bind fun bt621 => ((spec_l1Cur_pick.f l0 bt621.2.1 bt621.2.2 9).bind fun bt624 => ((spec_l1Cur_among.f l0 bt624.2.1 bt624.2.2 (([(-1), 0, 0, 1, 8, 4611686018427387904] : List Int))).bind fun bt630 => ((spec_l1Cur_among.f l0 bt630.2.1 bt630.2.2 (([(-1), 0, 0, 1, 20, 21] : List Int))).bind fun bt636 => ((spec_l1Cur_among.f l0 bt636.2.1 bt636.2.2 (([(-1), 0, 1, 2, 8, 9, 20, 21] : List Int))).bind fun bt642 => (some (bt618.1, wrap64 (bt621.1 - (wrap64 (Int.tdiv bt624.1 8))), bt630.1, bt636.1, bt642.1)))))))) = some (r1, r2, r3, r4, r5) := by first | (rw [hy615]; with_reducible exact H) | (have H2_ := (Option.bind_some _ _).symm.trans H; rw [hy615]; with_reducible exact H2_) | (have H2_ := (Option.bind_some _ _).symm.trans H; with_reducible exact H2_) | with_reducible exact H | (rw [hy615]; exact H) | exact H
  have Ny615 := Aside0.mk hy615
  clear hy615
  obtain ⟨⟨t618, t619, t620⟩, A4, H⟩ := ob H
  (try dsimp only at H)
  obtain ⟨⟨t621, t622, t623⟩, A5, H⟩ := ob H
  (try dsimp only at H)
  obtain ⟨⟨t624, t625, t626⟩, A6, H⟩ := ob H
  (try dsimp only at H)
  obtain ⟨y627, hy627⟩ : ∃ y_ : List Int, y_ = (([(-1), 0, 0, 1, 8, 4611686018427387904] : List Int)) := ⟨_, rfl⟩
  replace H : ((spec_l1Cur_among.f l0 t625 t626 y627).bind fun bt630 => ((spec_l1Cur_among.f l0 bt630.2.1 bt630.2.2 (([(-1), 0, 0, 1, 20, 21] : List Int))).bind fun bt636 => ((spec_l1Cur_among.f l0 bt636.2.1 bt636.2.2 (([(-1), 0, 1, 2, 8, 9, 20, 21] : List Int))).bind fun bt642 => (some (t618, wrap64 (t621 - (wrap64 (Int.tdiv t624 8))), bt630.1, bt636.1, bt642.1))))) = some (r1, r2, r3, r4, r5) := by first | (rw [hy627]; with_reducible exact H) | (have H2_ := (Option.bind_some _ _).symm.trans H; rw [hy627]; with_reducible exact H2_) | (have H2_ := (Option.bind_some _ _).symm.trans H; with_reducible exact H2_) | with_reducible exact H | (rw [hy627]; exact H) | exact H
  have Ny627 := Aside0.mk hy627
  clear hy627
  obtain ⟨⟨t630, t631, t632⟩, A7, H⟩ := ob H
  (try dsimp only at H)
  obtain ⟨y633, hy633⟩ : ∃ y_ : List Int, y_ = (([(-1), 0, 0, 1, 20, 21] : List Int)) := ⟨_, rfl⟩
  replace H : ((spec_l1Cur_among.f l0 t631 t632 y633).bind fun bt636 => ((spec_l1Cur_among.f l0 bt636.2.1 bt636.2.2 (([(-1), 0, 1, 2, 8, 9, 20, 21] : List Int))).bind fun bt642 => (some (t618, wrap64 (t621 - (wrap64 (Int.tdiv t624 8))), t630, bt636.1, bt642.1)))) = some (r1, r2, r3, r4, r5) := by first | (rw [hy633]; with_reducible exact H) | (have H2_ := (Option.bind_some _ _).symm.trans H; rw [hy633]; with_reducible exact H2_) | (have H2_ := (Option.bind_some _ _).symm.trans H; with_reducible exact H2_) | with_reducible exact H | (rw [hy633]; exact H) | exact H
  have Ny633 := Aside0.mk hy633
  clear hy633
  obtain ⟨⟨t636, t637, t638⟩, A8, H⟩ := ob H
  (try dsimp only at H)
  obtain ⟨y639, hy639⟩ : ∃ y_ : List Int, y_ = (([(-1), 0, 1, 2, 8, 9, 20, 21] : List Int)) := ⟨_, rfl⟩
  replace H : ((spec_l1Cur_among.f l0 t637 t638 y639).bind fun bt642 => (some (t618, wrap64 (t621 - (wrap64 (Int.tdiv t624 8))), t630, t636, bt642.1))) = some (r1, r2, r3, r4, r5) := by first | (rw [hy639]; with_reducible exact H) | (have H2_ := (Option.bind_some _ _).symm.trans H; rw [hy639]; with_reducible exact H2_) | (have H2_ := (Option.bind_some _ _).symm.trans H; with_reducible exact H2_) | with_reducible exact H | (rw [hy639]; exact H) | exact H
  have Ny639 := Aside0.mk hy639
  clear hy639
  obtain ⟨⟨t642, t643, t644⟩, A9, H⟩ := ob H
  (try dsimp only at H)
  simp only [Option.some.injEq, Prod.mk.injEq] at H
  obtain ⟨rfl, rfl, rfl, rfl, rfl⟩ := H
  refine Aside0.mk ?_
  try go_wp2_with (first | ((with_reducible refine gc 33 ?_); refine gl (some 9) Tryz.func33 #[.pointer (some ⟨gb611, 0, none⟩), .int .i64 4] ?_; (with_reducible refine (spec_l1Cur_one.calls gb611 l0 0 0 4 true t613 t614 w _ ?_ ?_ A2.out).mono ?_); exact hi66; exact hb66; rintro e w12 ⟨rfl, hi, hb, hk⟩; refine ⟨_, rfl, ?_⟩; replace BK610 := kb hk BK610 NB610_611; replace HB := Aside0.mk (hb); replace HI611 := Aside0.mk (hi); (try clear hb)) | ((with_reducible refine gd 11 ?_); refine Kd.R_lit (Kd.int .i64) _ 3 ?hg (N := 11) ?hd (xs := ([(-1), 0, 1, 3, 8, 9, 4611686018427387904] : List Int)) (inner := [.int .i64 (-1), .int .i64 0, .int .i64 1, .int .i64 3, .int .i64 8, .int .i64 9, .int .i64 4611686018427387904]) (ok := fun _ => True) (okp := fun _ => True) ?hr ?hp (fun _ hk => hk) trivial (Below.refl _ _) (Nat.le_refl _) (by simp) ?_; (case hd => rfl); (case hg => rfl); (case hr => first | (go_simp; done) | (go_simp; rfl)); (case hp => exact (Reps.one (show Kd.M (Kd.int .i64) _ _ _ (-1) [.int .i64 (-1)] from rfl) (Reps.one (show Kd.M (Kd.int .i64) _ _ _ 0 [.int .i64 0] from rfl) (Reps.one (show Kd.M (Kd.int .i64) _ _ _ 1 [.int .i64 1] from rfl) (Reps.one (show Kd.M (Kd.int .i64) _ _ _ 3 [.int .i64 3] from rfl) (Reps.one (show Kd.M (Kd.int .i64) _ _ _ 8 [.int .i64 8] from rfl) (Reps.one (show Kd.M (Kd.int .i64) _ _ _ 9 [.int .i64 9] from rfl) (Reps.one (show Kd.M (Kd.int .i64) _ _ _ 4611686018427387904 [.int .i64 4611686018427387904] from rfl) (Reps.none _ _))))))))); intro v616 w13 ho14 hb hg_ hnew_; clear hg_ hnew_; (first | rw [← Ny615.out] at ho14 | (simp only [Int.reduceToNat] at ho14; rw [← Ny615.out] at ho14)); have HO617 := Aside0.mk (Kd.R_lower ho14 (below_size hb66)); replace BK610 := nk BK610 hb; replace HB := bt66 HB hb; replace HI611 := ib66 HI611 hb; clear hb ho14; obtain ⟨Ao15, co15, eo15⟩ := Kd.R_slice HO617.out; subst eo15) | ((with_reducible refine gc 35 ?_); refine gl (some 12) Tryz.func35 #[.pointer (some ⟨gb611, 0, none⟩), .slice Ao15 y615.length co15] ?_; (with_reducible refine (spec_l1Cur_among.calls gb611 l0 t613 t614 _ _ y615 t618 t619 t620 w _ ?_ ?_ ?_ ?_ ?_ A4.out).mono ?_); exact hi66; exact hb66; exact rr HO617; exact rn HO617; exact far_slice (IsS66.own_ne HI611.out HO617.out (by decide)); rintro e w16 ⟨rfl, hi, hb, hk⟩; refine ⟨_, rfl, ?_⟩; replace BK610 := kb hk BK610 NB610_611; replace HO617 := Aside0.mk (Kd.R_mono (Kd.R_keep (IsS66.apart (show IsS66 w _ gb611 l0 t613 t614 from hi66) (pr HO617) (by decide)) hk (fun _ h => h.2)) (fun _ h => h.1)); replace HB := Aside0.mk (hb); replace HI611 := Aside0.mk (hi); (try clear hb)) | ((with_reducible refine gc 37 ?_); refine gl (some 14) Tryz.func37 #[.pointer (some ⟨gb611, 0, none⟩), .int .i64 6] ?_; (with_reducible refine (spec_l1Cur_pick.calls gb611 l0 t619 t620 6 t621 t622 t623 w _ ?_ ?_ A5.out).mono ?_); exact hi66; exact hb66; rintro e w17 ⟨rfl, hi, hb, hk⟩; refine ⟨_, rfl, ?_⟩; replace BK610 := kb hk BK610 NB610_611; replace HO617 := Aside0.mk (Kd.R_mono (Kd.R_keep (IsS66.apart (show IsS66 w _ gb611 l0 t619 t620 from hi66) (pr HO617) (by decide)) hk (fun _ h => h.2)) (fun _ h => h.1)); replace HB := Aside0.mk (hb); replace HI611 := Aside0.mk (hi); (try clear hb)) | ((with_reducible refine gc 37 ?_); refine gl (some 16) Tryz.func37 #[.pointer (some ⟨gb611, 0, none⟩), .int .i64 9] ?_; (with_reducible refine (spec_l1Cur_pick.calls gb611 l0 t622 t623 9 t624 t625 t626 w _ ?_ ?_ A6.out).mono ?_); exact hi66; exact hb66; rintro e w18 ⟨rfl, hi, hb, hk⟩; refine ⟨_, rfl, ?_⟩; replace BK610 := kb hk BK610 NB610_611; replace HO617 := Aside0.mk (Kd.R_mono (Kd.R_keep (IsS66.apart (show IsS66 w _ gb611 l0 t622 t623 from hi66) (pr HO617) (by decide)) hk (fun _ h => h.2)) (fun _ h => h.1)); replace HB := Aside0.mk (hb); replace HI611 := Aside0.mk (hi); (try clear hb)) | ((with_reducible refine gd 20 ?_); refine Kd.R_lit (Kd.int .i64) _ 3 ?hg (N := 20) ?hd (xs := ([(-1), 0, 0, 1, 8, 4611686018427387904] : List Int)) (inner := [.int .i64 (-1), .int .i64 0, .int .i64 0, .int .i64 1, .int .i64 8, .int .i64 4611686018427387904]) (ok := fun _ => True) (okp := fun _ => True) ?hr ?hp (fun _ hk => hk) trivial (Below.refl _ _) (Nat.le_refl _) (by simp) ?_; (case hd => rfl); (case hg => rfl); (case hr => first | (go_simp; done) | (go_simp; rfl)); (case hp => exact (Reps.one (show Kd.M (Kd.int .i64) _ _ _ (-1) [.int .i64 (-1)] from rfl) (Reps.one (show Kd.M (Kd.int .i64) _ _ _ 0 [.int .i64 0] from rfl) (Reps.one (show Kd.M (Kd.int .i64) _ _ _ 0 [.int .i64 0] from rfl) (Reps.one (show Kd.M (Kd.int .i64) _ _ _ 1 [.int .i64 1] from rfl) (Reps.one (show Kd.M (Kd.int .i64) _ _ _ 8 [.int .i64 8] from rfl) (Reps.one (show Kd.M (Kd.int .i64) _ _ _ 4611686018427387904 [.int .i64 4611686018427387904] from rfl) (Reps.none _ _)))))))); intro v628 w19 ho20 hb hg_ hnew_; clear hg_ hnew_; (first | rw [← Ny627.out] at ho20 | (simp only [Int.reduceToNat] at ho20; rw [← Ny627.out] at ho20)); have HO629 := Aside0.mk (Kd.R_lower (Kd.R_new' ho20 (Kd.R_lt (pr HO617))) (below_size hb66)); replace HO617 := re HO617 ho20 hb; replace BK610 := nk BK610 hb; replace HB := bt66 HB hb; replace HI611 := ib66 HI611 hb; clear hb ho20; obtain ⟨Ao21, co21, eo21⟩ := Kd.R_slice HO629.out; subst eo21) | ((with_reducible refine gc 35 ?_); refine gl (some 21) Tryz.func35 #[.pointer (some ⟨gb611, 0, none⟩), .slice Ao21 y627.length co21] ?_; (with_reducible refine (spec_l1Cur_among.calls gb611 l0 t625 t626 _ _ y627 t630 t631 t632 w _ ?_ ?_ ?_ ?_ ?_ A7.out).mono ?_); exact hi66; exact hb66; exact rr HO629; exact rn HO629; exact far_slice (IsS66.own_ne HI611.out HO629.out (by decide)); rintro e w22 ⟨rfl, hi, hb, hk⟩; refine ⟨_, rfl, ?_⟩; replace BK610 := kb hk BK610 NB610_611; replace HO617 := Aside0.mk (Kd.R_mono (Kd.R_keep (IsS66.apart (show IsS66 w _ gb611 l0 t625 t626 from hi66) (pr HO617) (by decide)) hk (fun _ h => h.2)) (fun _ h => h.1)); replace HO629 := Aside0.mk (Kd.R_mono (Kd.R_keep (IsS66.apart (show IsS66 w _ gb611 l0 t625 t626 from hi66) (pr HO629) (by decide)) hk (fun _ h => h.2)) (fun _ h => h.1)); replace HB := Aside0.mk (hb); replace HI611 := Aside0.mk (hi); (try clear hb)) | ((with_reducible refine gd 23 ?_); refine Kd.R_lit (Kd.int .i64) _ 3 ?hg (N := 23) ?hd (xs := ([(-1), 0, 0, 1, 20, 21] : List Int)) (inner := [.int .i64 (-1), .int .i64 0, .int .i64 0, .int .i64 1, .int .i64 20, .int .i64 21]) (ok := fun _ => True) (okp := fun _ => True) ?hr ?hp (fun _ hk => hk) trivial (Below.refl _ _) (Nat.le_refl _) (by simp) ?_; (case hd => rfl); (case hg => rfl); (case hr => first | (go_simp; done) | (go_simp; rfl)); (case hp => exact (Reps.one (show Kd.M (Kd.int .i64) _ _ _ (-1) [.int .i64 (-1)] from rfl) (Reps.one (show Kd.M (Kd.int .i64) _ _ _ 0 [.int .i64 0] from rfl) (Reps.one (show Kd.M (Kd.int .i64) _ _ _ 0 [.int .i64 0] from rfl) (Reps.one (show Kd.M (Kd.int .i64) _ _ _ 1 [.int .i64 1] from rfl) (Reps.one (show Kd.M (Kd.int .i64) _ _ _ 20 [.int .i64 20] from rfl) (Reps.one (show Kd.M (Kd.int .i64) _ _ _ 21 [.int .i64 21] from rfl) (Reps.none _ _)))))))); intro v634 w23 ho24 hb hg_ hnew_; clear hg_ hnew_; (first | rw [← Ny633.out] at ho24 | (simp only [Int.reduceToNat] at ho24; rw [← Ny633.out] at ho24)); have HO635 := Aside0.mk (Kd.R_lower (Kd.R_new' (Kd.R_new' ho24 (Kd.R_lt (pr HO617))) (Kd.R_lt (pr HO629))) (below_size hb66)); replace HO617 := re HO617 ho24 hb; replace HO629 := re HO629 ho24 hb; replace BK610 := nk BK610 hb; replace HB := bt66 HB hb; replace HI611 := ib66 HI611 hb; clear hb ho24; obtain ⟨Ao25, co25, eo25⟩ := Kd.R_slice HO635.out; subst eo25) | ((with_reducible refine gc 35 ?_); refine gl (some 24) Tryz.func35 #[.pointer (some ⟨gb611, 0, none⟩), .slice Ao25 y633.length co25] ?_; (with_reducible refine (spec_l1Cur_among.calls gb611 l0 t631 t632 _ _ y633 t636 t637 t638 w _ ?_ ?_ ?_ ?_ ?_ A8.out).mono ?_); exact hi66; exact hb66; exact rr HO635; exact rn HO635; exact far_slice (IsS66.own_ne HI611.out HO635.out (by decide)); rintro e w26 ⟨rfl, hi, hb, hk⟩; refine ⟨_, rfl, ?_⟩; replace BK610 := kb hk BK610 NB610_611; replace HO617 := Aside0.mk (Kd.R_mono (Kd.R_keep (IsS66.apart (show IsS66 w _ gb611 l0 t631 t632 from hi66) (pr HO617) (by decide)) hk (fun _ h => h.2)) (fun _ h => h.1)); replace HO629 := Aside0.mk (Kd.R_mono (Kd.R_keep (IsS66.apart (show IsS66 w _ gb611 l0 t631 t632 from hi66) (pr HO629) (by decide)) hk (fun _ h => h.2)) (fun _ h => h.1)); replace HO635 := Aside0.mk (Kd.R_mono (Kd.R_keep (IsS66.apart (show IsS66 w _ gb611 l0 t631 t632 from hi66) (pr HO635) (by decide)) hk (fun _ h => h.2)) (fun _ h => h.1)); replace HB := Aside0.mk (hb); replace HI611 := Aside0.mk (hi); (try clear hb)) | ((with_reducible refine gd 26 ?_); refine Kd.R_lit (Kd.int .i64) _ 3 ?hg (N := 26) ?hd (xs := ([(-1), 0, 1, 2, 8, 9, 20, 21] : List Int)) (inner := [.int .i64 (-1), .int .i64 0, .int .i64 1, .int .i64 2, .int .i64 8, .int .i64 9, .int .i64 20, .int .i64 21]) (ok := fun _ => True) (okp := fun _ => True) ?hr ?hp (fun _ hk => hk) trivial (Below.refl _ _) (Nat.le_refl _) (by simp) ?_; (case hd => rfl); (case hg => rfl); (case hr => first | (go_simp; done) | (go_simp; rfl)); (case hp => exact (Reps.one (show Kd.M (Kd.int .i64) _ _ _ (-1) [.int .i64 (-1)] from rfl) (Reps.one (show Kd.M (Kd.int .i64) _ _ _ 0 [.int .i64 0] from rfl) (Reps.one (show Kd.M (Kd.int .i64) _ _ _ 1 [.int .i64 1] from rfl) (Reps.one (show Kd.M (Kd.int .i64) _ _ _ 2 [.int .i64 2] from rfl) (Reps.one (show Kd.M (Kd.int .i64) _ _ _ 8 [.int .i64 8] from rfl) (Reps.one (show Kd.M (Kd.int .i64) _ _ _ 9 [.int .i64 9] from rfl) (Reps.one (show Kd.M (Kd.int .i64) _ _ _ 20 [.int .i64 20] from rfl) (Reps.one (show Kd.M (Kd.int .i64) _ _ _ 21 [.int .i64 21] from rfl) (Reps.none _ _)))))))))); intro v640 w27 ho28 hb hg_ hnew_; clear hg_ hnew_; (first | rw [← Ny639.out] at ho28 | (simp only [Int.reduceToNat] at ho28; rw [← Ny639.out] at ho28)); have HO641 := Aside0.mk (Kd.R_lower (Kd.R_new' (Kd.R_new' (Kd.R_new' ho28 (Kd.R_lt (pr HO617))) (Kd.R_lt (pr HO629))) (Kd.R_lt (pr HO635))) (below_size hb66)); replace HO617 := re HO617 ho28 hb; replace HO629 := re HO629 ho28 hb; replace HO635 := re HO635 ho28 hb; replace BK610 := nk BK610 hb; replace HB := bt66 HB hb; replace HI611 := ib66 HI611 hb; clear hb ho28; obtain ⟨Ao29, co29, eo29⟩ := Kd.R_slice HO641.out; subst eo29) | ((with_reducible refine gc 35 ?_); refine gl (some 27) Tryz.func35 #[.pointer (some ⟨gb611, 0, none⟩), .slice Ao29 y639.length co29] ?_; (with_reducible refine (spec_l1Cur_among.calls gb611 l0 t637 t638 _ _ y639 t642 t643 t644 w _ ?_ ?_ ?_ ?_ ?_ A9.out).mono ?_); exact hi66; exact hb66; exact rr HO641; exact rn HO641; exact far_slice (IsS66.own_ne HI611.out HO641.out (by decide)); rintro e w30 ⟨rfl, hi, hb, hk⟩; refine ⟨_, rfl, ?_⟩; replace BK610 := kb hk BK610 NB610_611; replace HO617 := Aside0.mk (Kd.R_mono (Kd.R_keep (IsS66.apart (show IsS66 w _ gb611 l0 t637 t638 from hi66) (pr HO617) (by decide)) hk (fun _ h => h.2)) (fun _ h => h.1)); replace HO629 := Aside0.mk (Kd.R_mono (Kd.R_keep (IsS66.apart (show IsS66 w _ gb611 l0 t637 t638 from hi66) (pr HO629) (by decide)) hk (fun _ h => h.2)) (fun _ h => h.1)); replace HO635 := Aside0.mk (Kd.R_mono (Kd.R_keep (IsS66.apart (show IsS66 w _ gb611 l0 t637 t638 from hi66) (pr HO635) (by decide)) hk (fun _ h => h.2)) (fun _ h => h.1)); replace HO641 := Aside0.mk (Kd.R_mono (Kd.R_keep (IsS66.apart (show IsS66 w _ gb611 l0 t637 t638 from hi66) (pr HO641) (by decide)) hk (fun _ h => h.2)) (fun _ h => h.1)); replace HB := Aside0.mk (hb); replace HI611 := Aside0.mk (hi); (try clear hb); have hnb31 := nb NB610_611; have hz32 := z4 BK610))
  refine bodyPost_ret (results_tc rfl _ _ gb610 37 #[.int .i64 (wrap64 (t621 - (wrap64 (Int.tdiv t624 8)))), .int .i64 t630, .int .i64 t636, .int .i64 t642] (0, 0) _ rfl (pz BK610) Tryz.underlying37 rfl (by kernel_rfl)) rfl ?_
  exact ⟨rs, hb66⟩
 replace c3 := Bool.eq_false_iff.mpr c3
 subst c3
 rw [if_neg (show ¬ (false = true) by decide)] at H
 obtain ⟨⟨t645, t646, t647⟩, A33, H⟩ := ob H
 (try dsimp only at H)
 obtain ⟨⟨t648, t649, t650, t651, t652, t653⟩, A34, H⟩ := ob H
 (try dsimp only at H)
 simp only [Option.some.injEq, Prod.mk.injEq] at H
 obtain ⟨rfl, rfl, rfl, rfl, rfl⟩ := H
 refine Aside0.mk ?_
 try go_wp2_with (first | ((with_reducible refine gc 33 ?_); refine gl (some 9) Tryz.func33 #[.pointer (some ⟨gb611, 0, none⟩), .int .i64 4] ?_; (with_reducible refine (spec_l1Cur_one.calls gb611 l0 0 0 4 false t613 t614 w _ ?_ ?_ A2.out).mono ?_); exact hi66; exact hb66; rintro e w37 ⟨rfl, hi, hb, hk⟩; refine ⟨_, rfl, ?_⟩; replace BK610 := kb hk BK610 NB610_611; replace HB := Aside0.mk (hb); replace HI611 := Aside0.mk (hi); (try clear hb)) | ((with_reducible refine gc 37 ?_); refine gl (some 30) Tryz.func37 #[.pointer (some ⟨gb611, 0, none⟩), .int .i64 7] ?_; (with_reducible refine (spec_l1Cur_pick.calls gb611 l0 t613 t614 7 t645 t646 t647 w _ ?_ ?_ A33.out).mono ?_); exact hi66; exact hb66; rintro e w38 ⟨rfl, hi, hb, hk⟩; refine ⟨_, rfl, ?_⟩; replace BK610 := kb hk BK610 NB610_611; replace HB := Aside0.mk (hb); replace HI611 := Aside0.mk (hi); (try clear hb)) | ((with_reducible refine gc 64 ?_); refine gl (some 33) Tryz.func64 #[.pointer (some ⟨gb611, 0, none⟩)] ?_; (with_reducible refine (spec_l1Cur_clue.calls k gb611 l0 t646 t647 t648 t649 t650 t651 t652 t653 w _ ?_ ?_ A34.out).mono ?_); exact hi66; exact hb66; rintro e w39 ⟨rfl, hi, hb, hk⟩; refine ⟨_, rfl, ?_⟩; replace BK610 := kb hk BK610 NB610_611; replace HB := Aside0.mk (hb); replace HI611 := Aside0.mk (hi); (try clear hb); have hnb40 := nb NB610_611; have hz41 := z4 BK610))
 refine bodyPost_ret (results_tc rfl _ _ gb610 37 #[.int .i64 t648, .int .i64 t649, .int .i64 t650, .int .i64 t651] (0, 0) _ rfl (pz BK610) Tryz.underlying37 rfl (by kernel_rfl)) rfl ?_
 exact ⟨rs, hb66⟩

/-! ### impl_IsClue: function 31 -/
def impl_IsClue.f (a0 : Int) (a1_0 : Int) (a1_1 : Int) (a1_2 : Int) (a1_3 : Int) : Option (Bool) := (impl_isClue.f a0 a1_0 a1_1 a1_2 a1_3).bind fun t655 => (some t655)
set_option maxHeartbeats 8000000 in
set_option maxRecDepth 100000 in
theorem impl_IsClue.calls (a0 : Int) (a1_0 : Int) (a1_1 : Int) (a1_2 : Int) (a1_3 : Int) (r : Bool) (w : World) (h : impl_IsClue.f a0 a1_0 a1_1 a1_2 a1_3 = some r) :
  Calls Tryz.prog 31 #[.int .i64 a0, .agg #[.int .i64 a1_0, .int .i64 a1_1, .int .i64 a1_2, .int .i64 a1_3]] w fun e w' => e = .returned (.bool r) ∧ Below w.heap.size w w' := by
 have hu37 := Tryz.underlying37
 have HB := Aside0.mk (Below.refl w.heap.size w)
 unfold impl_IsClue.f at h
 have H := h
 clear h
 obtain ⟨t655, A3, H⟩ := ob H
 (try dsimp only at H)
 obtain rfl := Option.some.inj H
 go_enter Tryz.func31, Tryz.ntmps31
 go_wp2_with (first | ((with_reducible refine gd 3 ?_); refine bx 3 37 #[.int .i64 a1_0, .int .i64 a1_1, .int .i64 a1_2, .int .i64 a1_3] ?_; intro gb654 hg w4 hbox hb; have BK654 := hbox; have GW654 := gs hg; have GE654 := gs hg; replace HB := bs hb; clear hb hbox hg; have hz5 := z4 BK654) | ((with_reducible refine gc 48 ?_); refine gl (some 7) Tryz.func48 #[.int .i64 a0, .agg #[.int .i64 a1_0, .int .i64 a1_1, .int .i64 a1_2, .int .i64 a1_3]] ?_; (with_reducible refine (impl_isClue.calls a0 a1_0 a1_1 a1_2 a1_3 t655 _ A3.out).mono ?_); rintro e w6 ⟨rfl, hb⟩; refine ⟨_, rfl, ?_⟩; replace HB := bs hb; (try clear hb)))
 go_ret
 exact ⟨rs, bw⟩

/-! ### spec_IsClue: function 32 -/
def spec_IsClue.f (a0 : Int) (a1_0 : Int) (a1_1 : Int) (a1_2 : Int) (a1_3 : Int) : Option (Bool) := (spec_pzSoldiers.f a0).bind fun t657 => (if t657 = true then ((spec_pzClue.f a0 a1_0 a1_1 a1_2 a1_3).bind fun t658 => (some t658)) else (some false))
set_option maxHeartbeats 8000000 in
set_option maxRecDepth 100000 in
theorem spec_IsClue.calls (a0 : Int) (a1_0 : Int) (a1_1 : Int) (a1_2 : Int) (a1_3 : Int) (r : Bool) (w : World) (h : spec_IsClue.f a0 a1_0 a1_1 a1_2 a1_3 = some r) :
  Calls Tryz.prog 32 #[.int .i64 a0, .agg #[.int .i64 a1_0, .int .i64 a1_1, .int .i64 a1_2, .int .i64 a1_3]] w fun e w' => e = .returned (.bool r) ∧ Below w.heap.size w w' := by
 have hu37 := Tryz.underlying37
 have HB := Aside0.mk (Below.refl w.heap.size w)
 unfold spec_IsClue.f at h
 have H := h
 clear h
 obtain ⟨t657, A3, H⟩ := ob H
 (try dsimp only at H)
 by_cases c4 : t657 = true
 ·subst c4
  rw [if_pos rfl] at H
  obtain ⟨t658, A5, H⟩ := ob H
  (try dsimp only at H)
  obtain rfl := Option.some.inj H
  go_enter Tryz.func32, Tryz.ntmps32
  go_wp2_with (first | ((with_reducible refine gd 3 ?_); refine bx 3 37 #[.int .i64 a1_0, .int .i64 a1_1, .int .i64 a1_2, .int .i64 a1_3] ?_; intro gb656 hg w6 hbox hb; have BK656 := hbox; have GW656 := gs hg; have GE656 := gs hg; replace HB := bs hb; clear hb hbox hg) | ((with_reducible refine gc 67 ?_); refine gl (some 6) Tryz.func67 #[.int .i64 a0] ?_; (with_reducible refine (spec_pzSoldiers.calls a0 true _ A3.out).mono ?_); rintro e w' ⟨rfl, ⟨nd, rfl⟩⟩; refine ⟨_, rfl, ?_⟩; have hz7 := z4 BK656) | (go_at_call 65; (with_reducible refine (spec_pzClue.calls a0 a1_0 a1_1 a1_2 a1_3 t658 _ A5.out).mono ?_); rintro e w8 ⟨rfl, hb⟩; replace HB := bs hb; (try clear hb)))
  go_ret
  exact ⟨rs, bw⟩
 replace c4 := Bool.eq_false_iff.mpr c4
 subst c4
 rw [if_neg (show ¬ (false = true) by decide)] at H
 obtain rfl := Option.some.inj H
 go_enter Tryz.func32, Tryz.ntmps32
 go_wp2_with (first | ((with_reducible refine gd 3 ?_); refine bx 3 37 #[.int .i64 a1_0, .int .i64 a1_1, .int .i64 a1_2, .int .i64 a1_3] ?_; intro gb656 hg w9 hbox hb; have BK656 := hbox; have GW656 := gs hg; have GE656 := gs hg; replace HB := bs hb; clear hb hbox hg) | ((with_reducible refine gc 67 ?_); refine gl (some 6) Tryz.func67 #[.int .i64 a0] ?_; (with_reducible refine (spec_pzSoldiers.calls a0 false _ A3.out).mono ?_); rintro e w' ⟨rfl, ⟨nd, rfl⟩⟩; refine ⟨_, rfl, ?_⟩))
 go_ret
 exact ⟨rs, bw⟩

end Go.Proofs.YthjbmojacgkdcaaGreatDoor.PFnRowsHidden
