-- Laid by xprint, a program of this session that runs over the kit's print.
import Derived.Test.YtmhbcfdodcnjmaaGreatDoorPFnSignalsReachx0
import Derived.Test.YtmhbcfdodcnjmaaGreatDoorPFnSignalsReachx2
namespace Go.Proofs.YtmhbcfdodcnjmaaGreatDoor.PFnSignalsReach
open Go.RowKit Go.Proofs.YtmhbcfdodcnjmaaGreatDoorW.PrintWords Go.Proofs.YtmhbcfdodcnjmaaGreatDoorW.PrintLast Go.Proofs.YtmhbcfdodcnjmaaGreatDoorW.PrintMore Go.Proofs.YtmhbcfdodcnjmaaGreatDoor.Sq
attribute [local go_sem] max2_int min2_int max_two min_two max_three min_three max_four min_four   -- for this text's walks alone
set_option linter.unusedVariables false
set_option linter.unusedSimpArgs false

/-! ### spec_l1Cur_signals: function 38 -/
mutual
def spec_l1Cur_signals.l0 : Nat → Int → List (S36) → Int → List Int → Int → Int → Int → Bool → Int → Option (Int × (List (S36)) × Int × Int)
  | 0, _, _, _, _, _, _, _, _, _ => none
  | k + 1, x4, x6, x7, x1000, x1001, x1002, x165000, x165001, x165002 => if x7 > 0 then ((spec_l1Cur_sureSignal.f x1000 x1001 x1002 x4).bind fun bt171 => (if x6.length < 5864062014805 then (spec_l1Cur_signals.l0 k x4 (x6 ++ [(⟨bt171.1, bt171.2.1, bt171.2.2.1⟩ : S36)]) (wrap64 (x7 - 1)) x1000 bt171.2.2.2.1 bt171.2.2.2.2 x165000 x165001 x165002) else (none))) else ((spec_l1Cur_pick.f x1000 x1001 x1002 18).bind fun bt179 => (if bt179.1 = 0 then (some (x4, ([] : List (S36)), bt179.2.1, bt179.2.2)) else (if bt179.1 = 1 then (spec_l1Cur_signals.l1 k x4 x6 x1000 bt179.2.1 bt179.2.2 x165000 x165001 x165002) else (some (x4, x6, bt179.2.1, bt179.2.2)))))
def spec_l1Cur_signals.l1 : Nat → Int → List (S36) → List Int → Int → Int → Int → Bool → Int → Option (Int × (List (S36)) × Int × Int)
  | 0, _, _, _, _, _, _, _, _ => none
  | k + 1, x4, x6, x1000, x1001, x1002, x165000, x165001, x165002 => (spec_l1Cur_pick.f x1000 x1001 x1002 2).bind fun bt182 => (if (x6.length : Int) < (wrap64 (10 + bt182.1)) then (if x6.length < 5864062014805 then (spec_l1Cur_signals.l1 k x4 (x6 ++ [(⟨x165000, x165001, x165002⟩ : S36)]) x1000 bt182.2.1 bt182.2.2 x165000 x165001 x165002) else (none)) else (some (x4, x6, bt182.2.1, bt182.2.2)))
end
def spec_l1Cur_signals.f (k : Nat) (s0_0 : List Int) (s0_1 : Int) (s0_2 : Int) : Option (Int × (List (S36)) × Int × Int) := (spec_l1Cur_signal.f s0_0 s0_1 s0_2).bind fun bt158 => ((spec_l1Cur_pick.f s0_0 bt158.2.2.2.2.1 bt158.2.2.2.2.2 4).bind fun bt168 => (spec_l1Cur_signals.l0 k bt158.1 (([(⟨bt158.2.1, bt158.2.2.1, bt158.2.2.2.1⟩ : S36)] : List (S36))) bt168.1 s0_0 bt168.2.1 bt168.2.2 bt158.2.1 bt158.2.2.1 bt158.2.2.2.1))
theorem spec_l1Cur_signals.mono_l : ∀ k, (∀ y0 y1 y2 y3 y4 y5 y6 y7 y8, LeO (spec_l1Cur_signals.l0 k y0 y1 y2 y3 y4 y5 y6 y7 y8) (spec_l1Cur_signals.l0 (k + 1) y0 y1 y2 y3 y4 y5 y6 y7 y8)) ∧ (∀ y0 y1 y2 y3 y4 y5 y6 y7, LeO (spec_l1Cur_signals.l1 k y0 y1 y2 y3 y4 y5 y6 y7) (spec_l1Cur_signals.l1 (k + 1) y0 y1 y2 y3 y4 y5 y6 y7))
  | 0 => ⟨fun _ _ _ _ _ _ _ _ _ r h => by simp [spec_l1Cur_signals.l0] at h, fun _ _ _ _ _ _ _ _ r h => by simp [spec_l1Cur_signals.l1] at h⟩
  | k + 1 => by
    obtain ⟨ih0, ih1⟩ := spec_l1Cur_signals.mono_l k
    refine ⟨?q0, ?q1⟩
    case' q0 => (intros; unfold spec_l1Cur_signals.l0)
    case' q1 => (intros; unfold spec_l1Cur_signals.l1)
    all_goals repeat' first
     | (with_reducible exact ih0 _ _ _ _ _ _ _ _ _)
     | (with_reducible exact ih1 _ _ _ _ _ _ _ _)
     | (with_reducible exact LeO.refl _)
     | (with_reducible exact LeO.none _)
     | (with_reducible refine LeO.ite ?_ ?_)
     | (with_reducible refine LeO.bind ?_ (fun _ => ?_))
     | exact ih0 _ _ _ _ _ _ _ _ _
     | exact ih1 _ _ _ _ _ _ _ _
     | exact LeO.none _
     | refine LeO.ite ?_ ?_
     | refine LeO.bind ?_ (fun _ => ?_)
theorem spec_l1Cur_signals.mono : ∀ a0 a1 a2 k, LeO (spec_l1Cur_signals.f k a0 a1 a2) (spec_l1Cur_signals.f (k + 1) a0 a1 a2) := by
  intro a0 a1 a2 k
  obtain ⟨ih0, ih1⟩ := spec_l1Cur_signals.mono_l k
  unfold spec_l1Cur_signals.f
  repeat' first
      | (with_reducible exact ih0 _ _ _ _ _ _ _ _ _)
      | (with_reducible exact ih1 _ _ _ _ _ _ _ _)
      | (with_reducible exact LeO.refl _)
      | (with_reducible exact LeO.none _)
      | (with_reducible refine LeO.ite ?_ ?_)
      | (with_reducible refine LeO.bind ?_ (fun _ => ?_))
      | exact ih0 _ _ _ _ _ _ _ _ _
      | exact ih1 _ _ _ _ _ _ _ _
      | exact LeO.none _
      | refine LeO.ite ?_ ?_
      | refine LeO.bind ?_ (fun _ => ?_)
set_option maxHeartbeats 8000000 in
set_option maxRecDepth 100000 in
theorem spec_l1Cur_signals.calls (k : Nat) (g : Nat) (s0_0 : List Int) (s0_1 : Int) (s0_2 : Int) (r1 : Int) (r2 : List (S36)) (r3 : Int) (r4 : Int) (w0 w : World) (hI : IsS59 w0 w g s0_0 s0_1 s0_2) (hB : Below w0.heap.size w0 w) (h : spec_l1Cur_signals.f k s0_0 s0_1 s0_2 = some (r1, r2, r3, r4)) :
  Calls Tryz.prog 38 #[.pointer (some ⟨g, 0, none⟩)] w fun e w' => ∃ v1_ : Value, e = .returned (.tuple #[.int .i64 r1, v1_]) ∧ Kd.R k36 36 w' w.heap.size (fun _ => True) v1_ r2 ∧ IsS59 w0 w' g s0_0 r3 r4 ∧ Below w0.heap.size w0 w' ∧ KeepBut w w' g none := by
 have hu36 := Tryz.underlying36
 have HI0 := Aside0.mk hI
 have HK := Aside0.mk (KeepBut.refl w g none)
 have HL := Aside0.mk hB.size
 clear hI
 have HW0 := Aside0.mk hB.size
 have HB := Aside0.mk hB
 clear hB
 unfold spec_l1Cur_signals.f at h
 have H := h
 clear h
 replace H := Option.bind_eq_some_iff.mp H
 obtain ⟨⟨t158, t159, t160, t161, t162, t163⟩, A20, H⟩ := H
 (try dsimp only at H)
 have A2 := Aside0.mk A20
 clear A20
 obtain ⟨y165, hy165⟩ : ∃ y_ : List (S36), y_ = (([(⟨t159, t160, t161⟩ : S36)] : List (S36))) := ⟨_, rfl⟩
 replace H : ((spec_l1Cur_pick.f s0_0 t162 t163 4).bind fun bt168 => (spec_l1Cur_signals.l0 k t158 y165 bt168.1 s0_0 bt168.2.1 bt168.2.2 t159 t160 t161)) = some (r1, r2, r3, r4) := by first | (rw [hy165]; with_reducible exact H) | (have H2_ := (Option.bind_some _ _).symm.trans H; rw [hy165]; with_reducible exact H2_) | (have H2_ := (Option.bind_some _ _).symm.trans H; with_reducible exact H2_) | with_reducible exact H | (rw [hy165]; exact H) | exact H
 have Ny165 := Aside0.mk hy165
 clear hy165
 replace H := Option.bind_eq_some_iff.mp H
 obtain ⟨⟨t168, t169, t170⟩, A30, H⟩ := H
 (try dsimp only at H)
 have A3 := Aside0.mk A30
 clear A30
 have H' := Aside0.mk H
 clear H
 go_enter Tryz.func38, Tryz.ntmps38
 go_wp2_with (first | ((with_reducible refine gate_callee (f := 64) rfl ?_); refine gl (some 10) Tryz.func64 #[.pointer (some ⟨g, 0, none⟩)] ?_; (with_reducible refine (spec_l1Cur_signal.calls g s0_0 s0_1 s0_2 t158 t159 t160 t161 t162 t163 w0 _ ?side1 ?side2 A2.out).mono ?_); (case side1 => exact hi59); (case side2 => exact hb59); rintro e w4 ⟨rfl, hi, hb, hk⟩; refine ⟨_, rfl, ?_⟩; replace HK := kt HK hk; replace HB := Aside0.mk (hb); replace HI0 := Aside0.mk (hi); (try clear hb)) | ((with_reducible refine gate_dst (N := 5) rfl ?_); refine bx 5 36 #[.int .i64 0, .bool false, .int .i64 0] ?_; intro gb164 hg w5 hbox hb; replace HB := bt59 HB hb; have BK164 := hbox; have GW164 := Aside0.mk ((by rw [hg]; exact (keep_size (w := w) (g := g) (row := none) hkk) : w.heap.size ≤ gb164)); have GE164 := Aside0.mk ((Nat.le_trans HW0.out (by rw [hg]; exact (keep_size (w := w) (g := g) (row := none) hkk) : w.heap.size ≤ gb164) : w0.heap.size ≤ gb164)); replace HK := kt HK (KeepBut.of_below hb g none); have NB0_164 := Aside0.mk ((by rw [hg]; exact Nat.ne_of_lt (IsS59.lt (show IsS59 w0 _ g s0_0 t162 t163 from hi59)) : g ≠ gb164)); have NB164_0 := Aside0.mk ((by rw [hg]; exact Nat.ne_of_gt (IsS59.lt (show IsS59 w0 _ g s0_0 t162 t163 from hi59)) : gb164 ≠ g)); replace HI0 := ib59 HI0 hb; clear hb hbox hg; have hnb6 := NB164_0.out; have hnc6 := NB0_164.out; have hcz7_0 := bc BK164 0 (.int .i64 0); have hcz7_1 := bc BK164 1 (.bool false); have hcz7_2 := bc BK164 2 (.int .i64 0); have hfz7_0 := blk_frozen BK164.out 0; have hfz7_1 := blk_frozen BK164.out 1; have hfz7_2 := blk_frozen BK164.out 2) | ((with_reducible refine gate_dst (N := 14) rfl ?_); refine Kd.R_lit k36 _ 36 ?hg (N := 14) ?hd (xs := ([(⟨t159, t160, t161⟩ : S36)] : List (S36))) (inner := [.int .i64 t159, .bool t160, .int .i64 t161]) (ok := fun _ => True) (okp := fun _ => True) ?hr ?hp (fun _ hk => hk) trivial (Below.refl _ _) (Nat.le_refl _) (by simp) ?_; (case hd => rfl); (case hg => rfl); (case hr => first | (go_simp; done) | (go_simp; rfl)); (case hp => exact (Reps.c3 (show Kd.M k36 _ _ _ (⟨t159, t160, t161⟩ : S36) [.int .i64 t159, .bool t160, .int .i64 t161] from (k36_mkM _ _ _ (⟨t159, t160, t161⟩ : S36) )) (Reps.none _ _))); intro v166 w8 ho9 hb hg_ hnew_; clear hg_ hnew_; (first | rw [← Ny165.out] at ho9 | (simp only [Int.reduceToNat] at ho9; rw [← Ny165.out] at ho9)); have HO167 := Aside0.mk (Kd.R_lower (Kd.R_newB ho9 (g := gb164) (o := .cells #[.int .i64 t159, .bool t160, .int .i64 t161] 36 (0, 0)) (by (with_reducible repeat (first | refine blk_drewN ?_ _ | refine blk_drew ?_ | refine blk_alloc ?_ _)); refine blk_put (cs := #[.int .i64 t159, .bool t160, .int .i64 0]) ?_ 2 _ rfl; (with_reducible repeat (first | refine blk_drewN ?_ _ | refine blk_drew ?_ | refine blk_alloc ?_ _)); refine blk_put (cs := #[.int .i64 t159, .bool false, .int .i64 0]) ?_ 1 _ rfl; (with_reducible repeat (first | refine blk_drewN ?_ _ | refine blk_drew ?_ | refine blk_alloc ?_ _)); refine blk_put (cs := #[.int .i64 0, .bool false, .int .i64 0]) ?_ 0 _ rfl; (with_reducible repeat (first | refine blk_drewN ?_ _ | refine blk_drew ?_ | refine blk_alloc ?_ _)); exact BK164.out)) (keep_size (w := w) (g := g) (row := none) hkk)); replace BK164 := Aside0.mk (blk_below (g := gb164) (o := .cells #[.int .i64 t159, .bool t160, .int .i64 t161] 36 (0, 0)) (by (with_reducible repeat (first | refine blk_drewN ?_ _ | refine blk_drew ?_ | refine blk_alloc ?_ _)); refine blk_put (cs := #[.int .i64 t159, .bool t160, .int .i64 0]) ?_ 2 _ rfl; (with_reducible repeat (first | refine blk_drewN ?_ _ | refine blk_drew ?_ | refine blk_alloc ?_ _)); refine blk_put (cs := #[.int .i64 t159, .bool false, .int .i64 0]) ?_ 1 _ rfl; (with_reducible repeat (first | refine blk_drewN ?_ _ | refine blk_drew ?_ | refine blk_alloc ?_ _)); refine blk_put (cs := #[.int .i64 0, .bool false, .int .i64 0]) ?_ 0 _ rfl; (with_reducible repeat (first | refine blk_drewN ?_ _ | refine blk_drew ?_ | refine blk_alloc ?_ _)); exact BK164.out) hb); replace HK := kt HK (KeepBut.of_below hb g none); replace HB := bt59 HB hb; replace HI0 := Aside0.mk (IsS59.below (show IsS59 w0 (((w5.setCell ⟨gb164, 0, none⟩ (.int .i64 t159)).setCell ⟨gb164, 1, none⟩ (.bool t160)).setCell ⟨gb164, 2, none⟩ (.int .i64 t161)) g s0_0 t162 t163 from hi59) hb); clear hb ho9) | ((with_reducible refine gate_callee (f := 80) rfl ?_); refine gl (some 16) Tryz.func80 #[.pointer (some ⟨g, 0, none⟩), .int .i64 4] ?_; (with_reducible refine (spec_l1Cur_pick.calls g s0_0 t162 t163 4 t168 t169 t170 w0 _ ?side1 ?side2 A3.out).mono ?_); (case side1 => exact hi59); (case side2 => exact hb59); rintro e w10 ⟨rfl, hi, hb, hk⟩; refine ⟨_, rfl, ?_⟩; replace BK164 := Aside0.mk (KeepBut.blk hk (g' := gb164) (o := .cells #[.int .i64 t159, .bool t160, .int .i64 t161] 36 (0, 0)) (pk BK164) NB164_0.out (by simp)); replace HO167 := Aside0.mk (Kd.R_mono (Kd.R_keep (IsS59.apart (show IsS59 w0 _ g s0_0 t162 t163 from hi59) (pr HO167) (by decide)) hk (fun _ h => h.2)) (fun _ h => h.1)); replace HK := kt HK hk; replace HB := Aside0.mk (hb); replace HI0 := Aside0.mk (hi); (try clear hb)))
 go_loopg [6, 7] k (fun kq v6 v7 w' => ∃ (x6_1 : List (S36)) (x7_1 : Int) (x1001_1 : Int) (x1002_1 : Int), v7 = .int .i64 x7_1 ∧ Aside0 (spec_l1Cur_signals.l0 kq t158 x6_1 x7_1 s0_0 x1001_1 x1002_1 t159 t160 t161 = some (r1, r2, r3, r4)) ∧ Aside0 (kq ≤ k) ∧ Aside0 (Kd.R k36 36 w' w.heap.size (fun k_ => k_ ≠ gb164) v6 x6_1) ∧ Aside0 (w'.heap[gb164]? = some (.cells #[.int .i64 t159, .bool t160, .int .i64 t161] 36 (0, 0))) ∧ Aside0 (IsS59 w0 w' g s0_0 x1001_1 x1002_1) ∧ Aside0 (KeepBut w w' g none) ∧ Aside0 (Below w0.heap.size w0 w'))
 case atStart => exact ⟨(y165), (t168), (t169), (t170), (rs), H', ⟨Nat.le_refl _⟩, ⟨by (with_reducible repeat (first | apply Kd.R_alloc | apply Kd.R_drewN | apply Kd.R_drew)); exact Kd.R_mono HO167.out (fun _ hk => hk.2)⟩, ⟨pk BK164⟩, ⟨hi59⟩, ⟨hkk⟩, ⟨hb59⟩⟩
 case round =>
  clear H'
  try clear p2
  try clear c3
  try clear c6
  try clear c8
  try clear hcz7_0
  try clear hcz7_1
  try clear hcz7_2
  try clear hfz7_0
  try clear hfz7_1
  try clear hfz7_2
  obtain ⟨x6_1, x7_1, x1001_1, x1002_1, rfl, HA, HK1, HO_6, BK164, HI0, HK, HB⟩ := hrel
  cases gk with
  | zero => exact absurd HA.out (by simp [spec_l1Cur_signals.l0])
  | succ k1 =>
   have H := HA.out
   clear HA
   simp only [spec_l1Cur_signals.l0] at H
   by_cases c11 : x7_1 > 0
   ·rw [if_pos c11] at H
    have c11b0 : decide (0 < x7_1) = true := decide_eq_true c11
    clear c11
    replace H := Option.bind_eq_some_iff.mp H
    obtain ⟨⟨t171, t172, t173, t174, t175⟩, A120, H⟩ := H
    (try dsimp only at H)
    have A12 := Aside0.mk A120
    clear A120
    by_cases c13 : x6_1.length < 5864062014805
    ·rw [if_pos c13] at H
     have LMc13 := Aside0.mk c13
     clear c13
     obtain ⟨y176, hy176⟩ : ∃ y_ : List (S36), y_ = (x6_1 ++ [(⟨t171, t172, t173⟩ : S36)]) := ⟨_, rfl⟩
     replace H : (spec_l1Cur_signals.l0 k1 t158 y176 (wrap64 (x7_1 - 1)) s0_0 t174 t175 t159 t160 t161) = some (r1, r2, r3, r4) := by first | (rw [hy176]; with_reducible exact H) | (have H2_ := (Option.bind_some _ _).symm.trans H; rw [hy176]; with_reducible exact H2_) | (have H2_ := (Option.bind_some _ _).symm.trans H; with_reducible exact H2_) | with_reducible exact H | (rw [hy176]; exact H) | exact H
     have Ny176 := Aside0.mk hy176
     clear hy176
     have H' := Aside0.mk H
     clear H
     go_wp2_with (first | ((with_reducible refine gate_callee (f := 74) rfl ?_); refine gl (some 24) Tryz.func74 #[.pointer (some ⟨g, 0, none⟩), .int .i64 t158] ?_; (with_reducible refine (spec_l1Cur_sureSignal.calls g s0_0 x1001_1 x1002_1 t158 t171 t172 t173 t174 t175 w0 _ ?side1 ?side2 A12.out).mono ?_); (case side1 => exact hi59); (case side2 => exact hb59); rintro e w14 ⟨rfl, hi, hb, hk⟩; refine ⟨_, rfl, ?_⟩; replace HO_6 := Aside0.mk (Kd.R_mono (Kd.R_keep (IsS59.apart (show IsS59 w0 _ g s0_0 x1001_1 x1002_1 from hi59) (pr HO_6) (by decide)) hk (fun _ h => h.2)) (fun _ h => h.1)); replace BK164 := Aside0.mk (KeepBut.blk hk (g' := gb164) (o := .cells #[.int .i64 t159, .bool t160, .int .i64 t161] 36 (0, 0)) (pk BK164) NB164_0.out (by simp)); replace HK := kt HK hk; replace HB := Aside0.mk (hb); replace HI0 := Aside0.mk (hi); (try clear hb)) | ((with_reducible refine gate_builtin (b := .append) (xs := #[.tmp 21, .tmp 25]) rfl ?_); at_builtin; refine Kd.R_append k36 w.heap.size rfl (.tmp 21) (.tmp 25) 24 36 (.agg #[(.int .i64 0), (.bool false), (.int .i64 0)]) 24 rfl Tryz.underlying24 info36 rfl (by decide) (by omega) u6 x6_1 (⟨t171, t172, t173⟩ : S36) [.int .i64 t171, .bool t172, .int .i64 t173] (fun k_ => k_ ≠ gb164) (fun _ => False) rfl rfl ?aP (fun _ hk => hk.elim) ?aF ?aO (Below.refl _ _) ?aS ?aL ?_; (case aP => exact k36_mkM _ _ _ (⟨t171, t172, t173⟩ : S36)); (case aF => exact (fun k_ hk => Kd.freshB (pk BK164) k_ hk)); (case aO => exact (pr HO_6)); (case aS => exact (keep_size (w := w) (g := g) (row := none) hkk)); (case aL => have := LMc13.out; omega); intro v177 w15 ho hb hg hat; rw [← Ny176.out] at ho; have n0_ := Aside0.mk (blk_grown (pk BK164) hg (Kd.R_away HO_6.out (fun _ hk => hk))); have n1_ := Aside0.mk (IsS59.grown hi59 hg (IsS59.own_ne HI0.out HO_6.out (by decide))); have n2_ := Aside0.mk (below_weaken hb59 HL.out hb); have n3_ := Aside0.mk (KeepBut.trans hkk (KeepBut.of_grown hg g) (Kd.R_base2 HO_6.out)); have n4_ := Aside0.mk (ho); clear BK164; clear HI0; clear HB; clear HK; clear HO_6; have BK164 := n0_; have HI0 := n1_; have HB := n2_; have HK := n3_; have HO178 := n4_; clear n0_ n1_ n2_ n3_ n4_; clear ho hb hg hat))
     go_roundg k1
     case measure => have := HK1.out; omega
     case rel => exact ⟨(y176), (wrap64 (x7_1 - 1)), (t174), (t175), (rs), H', ⟨by have := HK1.out; omega⟩, ⟨pr HO178⟩, ⟨pk BK164⟩, ⟨hi59⟩, ⟨hkk⟩, ⟨hb59⟩⟩
    ·rw [if_neg c13] at H
     exact absurd H (by simp)
   ·rw [if_neg c11] at H
    have c11b0 : decide (0 < x7_1) = false := decide_eq_false c11
    clear c11
    replace H := Option.bind_eq_some_iff.mp H
    obtain ⟨⟨t179, t180, t181⟩, A160, H⟩ := H
    (try dsimp only at H)
    have A16 := Aside0.mk A160
    clear A160
    by_cases c17 : t179 = 0
    ·rw [if_pos c17] at H
     have c17b0 : (t179 == 0) = true := beq_iff_eq.mpr c17
     have c17b1 : (t179 != 0) = false := bne_eq_false_iff_eq.mpr c17
     clear c17
     simp only [Option.some.injEq, Prod.mk.injEq] at H
     obtain ⟨rfl, rfl, rfl, rfl⟩ := H
     go_wp2_with (first | ((with_reducible refine gate_callee (f := 80) rfl ?_); refine gl (some 28) Tryz.func80 #[.pointer (some ⟨g, 0, none⟩), .int .i64 18] ?_; (with_reducible refine (spec_l1Cur_pick.calls g s0_0 x1001_1 x1002_1 18 t179 t180 t181 w0 _ ?side1 ?side2 A16.out).mono ?_); (case side1 => exact hi59); (case side2 => exact hb59); rintro e w18 ⟨rfl, hi, hb, hk⟩; refine ⟨_, rfl, ?_⟩; replace HO_6 := Aside0.mk (Kd.R_mono (Kd.R_keep (IsS59.apart (show IsS59 w0 _ g s0_0 x1001_1 x1002_1 from hi59) (pr HO_6) (by decide)) hk (fun _ h => h.2)) (fun _ h => h.1)); replace BK164 := Aside0.mk (KeepBut.blk hk (g' := gb164) (o := .cells #[.int .i64 t159, .bool t160, .int .i64 t161] 36 (0, 0)) (pk BK164) NB164_0.out (by simp)); replace HK := kt HK hk; replace HB := Aside0.mk (hb); replace HI0 := Aside0.mk (hi); (try clear hb)))
     go_ret2
     exact ⟨_, rs, by first | exact Kd.R_nil _ _ _ _ _ | exact Kd.N_nil _ _ _ _ _ | exact Kd.V_nil _ _ _ _ _ | exact Kd.Q_nil _ _ _ _ _ | exact Kd.S_nil _ _ _ _ _, hi59, hb59, hkk⟩
    ·rw [if_neg c17] at H
     have c17b0 : (t179 == 0) = false := beq_eq_false_iff_ne.mpr c17
     have c17b1 : (t179 != 0) = true := bne_iff_ne.mpr c17
     by_cases c19 : t179 = 1
     ·rw [if_pos c19] at H
      have c19b0 : (t179 == 1) = true := beq_iff_eq.mpr c19
      have c19b1 : (t179 != 1) = false := bne_eq_false_iff_eq.mpr c19
      clear c19
      have H' := Aside0.mk H
      clear H
      go_wp2_with (first | ((with_reducible refine gate_callee (f := 80) rfl ?_); refine gl (some 28) Tryz.func80 #[.pointer (some ⟨g, 0, none⟩), .int .i64 18] ?_; (with_reducible refine (spec_l1Cur_pick.calls g s0_0 x1001_1 x1002_1 18 t179 t180 t181 w0 _ ?side1 ?side2 A16.out).mono ?_); (case side1 => exact hi59); (case side2 => exact hb59); rintro e w20 ⟨rfl, hi, hb, hk⟩; refine ⟨_, rfl, ?_⟩; replace HO_6 := Aside0.mk (Kd.R_mono (Kd.R_keep (IsS59.apart (show IsS59 w0 _ g s0_0 x1001_1 x1002_1 from hi59) (pr HO_6) (by decide)) hk (fun _ h => h.2)) (fun _ h => h.1)); replace BK164 := Aside0.mk (KeepBut.blk hk (g' := gb164) (o := .cells #[.int .i64 t159, .bool t160, .int .i64 t161] 36 (0, 0)) (pk BK164) NB164_0.out (by simp)); replace HK := kt HK hk; replace HB := Aside0.mk (hb); replace HI0 := Aside0.mk (hi); (try clear hb)))
      go_loopg [6] k1 (fun kq v6 w' => ∃ (x6_2 : List (S36)) (x1001_2 : Int) (x1002_2 : Int), Aside0 (spec_l1Cur_signals.l1 kq t158 x6_2 s0_0 x1001_2 x1002_2 t159 t160 t161 = some (r1, r2, r3, r4)) ∧ Aside0 (kq ≤ k1) ∧ Aside0 (Kd.R k36 36 w' w.heap.size (fun k_ => k_ ≠ gb164) v6 x6_2) ∧ Aside0 (w'.heap[gb164]? = some (.cells #[.int .i64 t159, .bool t160, .int .i64 t161] 36 (0, 0))) ∧ Aside0 (IsS59 w0 w' g s0_0 x1001_2 x1002_2) ∧ Aside0 (KeepBut w w' g none) ∧ Aside0 (Below w0.heap.size w0 w'))
      case atStart => exact ⟨(x6_1), (t180), (t181), H', ⟨Nat.le_refl _⟩, ⟨pr HO_6⟩, ⟨pk BK164⟩, ⟨hi59⟩, ⟨hkk⟩, ⟨hb59⟩⟩
      case round =>
       clear H'
       try clear c1
       try clear p2
       try clear c3
       try clear c6
       try clear p6
       try clear c7
       try clear c8
       try clear c11
       try clear c11b0
       try clear c13
       try clear c17
       try clear c17b0
       try clear c17b1
       try clear c19
       try clear c19b0
       try clear c19b1
       try clear hcz7_0
       try clear hcz7_1
       try clear hcz7_2
       try clear hfz7_0
       try clear hfz7_1
       try clear hfz7_2
       try clear p2
       obtain ⟨x6_2, x1001_2, x1002_2, HA, HK2, HO_6, BK164, HI0, HK, HB⟩ := hrel
       cases gk with
       | zero => exact absurd HA.out (by simp [spec_l1Cur_signals.l1])
       | succ k2 =>
        have H := HA.out
        clear HA
        simp only [spec_l1Cur_signals.l1] at H
        replace H := Option.bind_eq_some_iff.mp H
        obtain ⟨⟨t182, t183, t184⟩, A210, H⟩ := H
        (try dsimp only at H)
        have A21 := Aside0.mk A210
        clear A210
        by_cases c22 : (x6_2.length : Int) < (wrap64 (10 + t182))
        ·rw [if_pos c22] at H
         have c22b0 : decide ((x6_2.length : Int) < (wrap64 (10 + t182))) = true := decide_eq_true c22
         clear c22
         by_cases c23 : x6_2.length < 5864062014805
         ·rw [if_pos c23] at H
          have LMc23 := Aside0.mk c23
          clear c23
          obtain ⟨y185, hy185⟩ : ∃ y_ : List (S36), y_ = (x6_2 ++ [(⟨t159, t160, t161⟩ : S36)]) := ⟨_, rfl⟩
          replace H : (spec_l1Cur_signals.l1 k2 t158 y185 s0_0 t183 t184 t159 t160 t161) = some (r1, r2, r3, r4) := by first | (rw [hy185]; with_reducible exact H) | (have H2_ := (Option.bind_some _ _).symm.trans H; rw [hy185]; with_reducible exact H2_) | (have H2_ := (Option.bind_some _ _).symm.trans H; with_reducible exact H2_) | with_reducible exact H | (rw [hy185]; exact H) | exact H
          have Ny185 := Aside0.mk hy185
          clear hy185
          have H' := Aside0.mk H
          clear H
          obtain ⟨Ao24, co24, eo24⟩ := Kd.R_slice HO_6.out
          subst eo24
          go_wp2_with (first | ((with_reducible refine gate_callee (f := 80) rfl ?_); refine gl (some 37) Tryz.func80 #[.pointer (some ⟨g, 0, none⟩), .int .i64 2] ?_; (with_reducible refine (spec_l1Cur_pick.calls g s0_0 x1001_2 x1002_2 2 t182 t183 t184 w0 _ ?side1 ?side2 A21.out).mono ?_); (case side1 => exact hi59); (case side2 => exact hb59); rintro e w25 ⟨rfl, hi, hb, hk⟩; refine ⟨_, rfl, ?_⟩; replace HO_6 := Aside0.mk (Kd.R_mono (Kd.R_keep (IsS59.apart (show IsS59 w0 _ g s0_0 x1001_2 x1002_2 from hi59) (pr HO_6) (by decide)) hk (fun _ h => h.2)) (fun _ h => h.1)); replace BK164 := Aside0.mk (KeepBut.blk hk (g' := gb164) (o := .cells #[.int .i64 t159, .bool t160, .int .i64 t161] 36 (0, 0)) (pk BK164) NB164_0.out (by simp)); replace HK := kt HK hk; replace HB := Aside0.mk (hb); replace HI0 := Aside0.mk (hi); (try clear hb); have hnb26 := NB164_0.out; have hnc26 := NB0_164.out; have hcz27_0 := bc BK164 0 (.int .i64 t159); have hcz27_1 := bc BK164 1 (.bool t160); have hcz27_2 := bc BK164 2 (.int .i64 t161); have hfz27_0 := blk_frozen BK164.out 0; have hfz27_1 := blk_frozen BK164.out 1; have hfz27_2 := blk_frozen BK164.out 2) | ((with_reducible refine gate_builtin (b := .append) (xs := #[.tmp 40, .tmp 42]) rfl ?_); at_builtin; refine Kd.R_append k36 w.heap.size rfl (.tmp 40) (.tmp 42) 24 36 (.agg #[(.int .i64 0), (.bool false), (.int .i64 0)]) 24 rfl Tryz.underlying24 info36 rfl (by decide) (by omega) (.slice Ao24 x6_2.length co24) x6_2 (⟨t159, t160, t161⟩ : S36) [.int .i64 t159, .bool t160, .int .i64 t161] (fun k_ => k_ ≠ gb164) (fun _ => False) rfl rfl ?aP (fun _ hk => hk.elim) ?aF ?aO (Below.refl _ _) ?aS ?aL ?_; (case aP => exact k36_mkM _ _ _ (⟨t159, t160, t161⟩ : S36)); (case aF => exact (fun k_ hk => Kd.freshB (pk BK164) k_ hk)); (case aO => exact (pr HO_6)); (case aS => exact (keep_size (w := w) (g := g) (row := none) hkk)); (case aL => have := LMc23.out; omega); intro v186 w28 ho hb hg hat; rw [← Ny185.out] at ho; have n0_ := Aside0.mk (blk_grown (pk BK164) hg (Kd.R_away HO_6.out (fun _ hk => hk))); have n1_ := Aside0.mk (IsS59.grown hi59 hg (IsS59.own_ne HI0.out HO_6.out (by decide))); have n2_ := Aside0.mk (below_weaken hb59 HL.out hb); have n3_ := Aside0.mk (KeepBut.trans hkk (KeepBut.of_grown hg g) (Kd.R_base2 HO_6.out)); have n4_ := Aside0.mk (ho); clear BK164; clear HI0; clear HB; clear HK; clear HO_6; have BK164 := n0_; have HI0 := n1_; have HB := n2_; have HK := n3_; have HO187 := n4_; clear n0_ n1_ n2_ n3_ n4_; clear ho hb hg hat))
          go_roundg k2
          case measure => have := HK1.out; have := HK2.out; omega
          case rel => exact ⟨(y185), (t183), (t184), H', ⟨by have := HK1.out; have := HK2.out; omega⟩, ⟨pr HO187⟩, ⟨pk BK164⟩, ⟨hi59⟩, ⟨hkk⟩, ⟨hb59⟩⟩
         ·rw [if_neg c23] at H
          exact absurd H (by simp)
        ·rw [if_neg c22] at H
         have c22b0 : decide ((x6_2.length : Int) < (wrap64 (10 + t182))) = false := decide_eq_false c22
         clear c22
         simp only [Option.some.injEq, Prod.mk.injEq] at H
         obtain ⟨rfl, rfl, rfl, rfl⟩ := H
         obtain ⟨Ao29, co29, eo29⟩ := Kd.R_slice HO_6.out
         subst eo29
         go_wp2_with (first | ((with_reducible refine gate_callee (f := 80) rfl ?_); refine gl (some 37) Tryz.func80 #[.pointer (some ⟨g, 0, none⟩), .int .i64 2] ?_; (with_reducible refine (spec_l1Cur_pick.calls g s0_0 x1001_2 x1002_2 2 t182 t183 t184 w0 _ ?side1 ?side2 A21.out).mono ?_); (case side1 => exact hi59); (case side2 => exact hb59); rintro e w30 ⟨rfl, hi, hb, hk⟩; refine ⟨_, rfl, ?_⟩; replace HO_6 := Aside0.mk (Kd.R_mono (Kd.R_keep (IsS59.apart (show IsS59 w0 _ g s0_0 x1001_2 x1002_2 from hi59) (pr HO_6) (by decide)) hk (fun _ h => h.2)) (fun _ h => h.1)); replace HK := kt HK hk; replace HB := Aside0.mk (hb); replace HI0 := Aside0.mk (hi); (try clear hb)))
         go_ret2
         exact ⟨_, rs, by (with_reducible repeat (first | apply Kd.R_alloc | apply Kd.R_drewN | apply Kd.R_drew)); exact Kd.R_mono HO_6.out (fun _ hk => trivial), hi59, hb59, hkk⟩
     ·rw [if_neg c19] at H
      have c19b0 : (t179 == 1) = false := beq_eq_false_iff_ne.mpr c19
      have c19b1 : (t179 != 1) = true := bne_iff_ne.mpr c19
      simp only [Option.some.injEq, Prod.mk.injEq] at H
      obtain ⟨rfl, rfl, rfl, rfl⟩ := H
      go_wp2_with (first | ((with_reducible refine gate_callee (f := 80) rfl ?_); refine gl (some 28) Tryz.func80 #[.pointer (some ⟨g, 0, none⟩), .int .i64 18] ?_; (with_reducible refine (spec_l1Cur_pick.calls g s0_0 x1001_1 x1002_1 18 t179 t180 t181 w0 _ ?side1 ?side2 A16.out).mono ?_); (case side1 => exact hi59); (case side2 => exact hb59); rintro e w31 ⟨rfl, hi, hb, hk⟩; refine ⟨_, rfl, ?_⟩; replace HO_6 := Aside0.mk (Kd.R_mono (Kd.R_keep (IsS59.apart (show IsS59 w0 _ g s0_0 x1001_1 x1002_1 from hi59) (pr HO_6) (by decide)) hk (fun _ h => h.2)) (fun _ h => h.1)); replace BK164 := Aside0.mk (KeepBut.blk hk (g' := gb164) (o := .cells #[.int .i64 t159, .bool t160, .int .i64 t161] 36 (0, 0)) (pk BK164) NB164_0.out (by simp)); replace HK := kt HK hk; replace HB := Aside0.mk (hb); replace HI0 := Aside0.mk (hi); (try clear hb)))
      go_ret2
      exact ⟨_, rs, by (with_reducible repeat (first | apply Kd.R_alloc | apply Kd.R_drewN | apply Kd.R_drew)); exact Kd.R_mono HO_6.out (fun _ hk => trivial), hi59, hb59, hkk⟩

/-! ### spec_DrawHeardBy: function 5 -/
def spec_DrawHeardBy.f (k : Nat) (l0 : List Int) : Option (Int × (List (S36)) × Int) := (spec_l1Cur_signals.f k l0 0 0).bind fun bt189 => ((spec_l1Cur_among.f l0 bt189.2.2.1 bt189.2.2.2 (([0, 1, 2, 3, 5, 9, 20, 100000, 100001, (-1)] : List Int))).bind fun bt198 => (some (bt189.1, bt189.2.1, bt198.1)))
theorem spec_DrawHeardBy.mono : ∀ a0 k, LeO (spec_DrawHeardBy.f k a0) (spec_DrawHeardBy.f (k + 1) a0) := by
  intro a0 k
  unfold spec_DrawHeardBy.f
  repeat' first
      | (with_reducible exact spec_l1Cur_signals.mono _ _ _ _)
      | (with_reducible exact LeO.refl _)
      | (with_reducible exact LeO.none _)
      | (with_reducible refine LeO.ite ?_ ?_)
      | (with_reducible refine LeO.bind ?_ (fun _ => ?_))
      | exact spec_l1Cur_signals.mono _ _ _ _
      | exact LeO.none _
      | refine LeO.ite ?_ ?_
      | refine LeO.bind ?_ (fun _ => ?_)
set_option maxHeartbeats 8000000 in
set_option maxRecDepth 100000 in
theorem spec_DrawHeardBy.calls (k : Nat) (A0 : Option Addr) (c0 : Nat) (l0 : List Int) (r1 : Int) (r2 : List (S36)) (r3 : Int) (w : World) (hr0 : Kd.C (Kd.int .u8) w A0 l0.length l0) (hc0 : l0.length ≤ c0) (h : spec_DrawHeardBy.f k l0 = some (r1, r2, r3)) :
  Calls Tryz.prog 5 #[.slice A0 l0.length c0] w fun e w' => ∃ v1_ : Value, e = .returned (.tuple #[.int .i64 r1, v1_, .int .i64 r3]) ∧ Kd.R k36 36 w' w.heap.size (fun _ => True) v1_ r2 ∧ Below w.heap.size w w' := by
 have hu59 := Tryz.underlying59
 have HR0 := Aside0.mk hr0
 have HC0 := Aside0.mk hc0
 clear hr0 hc0
 have HB := Aside0.mk (Below.refl w.heap.size w)
 unfold spec_DrawHeardBy.f at h
 have H := h
 clear h
 replace H := Option.bind_eq_some_iff.mp H
 obtain ⟨⟨t189, t190, t193, t194⟩, A20, H⟩ := H
 (try dsimp only at H)
 have A2 := Aside0.mk A20
 clear A20
 obtain ⟨y195, hy195⟩ : ∃ y_ : List Int, y_ = (([0, 1, 2, 3, 5, 9, 20, 100000, 100001, (-1)] : List Int)) := ⟨_, rfl⟩
 replace H : ((spec_l1Cur_among.f l0 t193 t194 y195).bind fun bt198 => (some (t189, t190, bt198.1))) = some (r1, r2, r3) := by first | (rw [hy195]; with_reducible exact H) | (have H2_ := (Option.bind_some _ _).symm.trans H; rw [hy195]; with_reducible exact H2_) | (have H2_ := (Option.bind_some _ _).symm.trans H; with_reducible exact H2_) | with_reducible exact H | (rw [hy195]; exact H) | exact H
 have Ny195 := Aside0.mk hy195
 clear hy195
 replace H := Option.bind_eq_some_iff.mp H
 obtain ⟨⟨t198, t199, t200⟩, A30, H⟩ := H
 (try dsimp only at H)
 have A3 := Aside0.mk A30
 clear A30
 simp only [Option.some.injEq, Prod.mk.injEq] at H
 obtain ⟨rfl, rfl, rfl⟩ := H
 go_enter Tryz.func5, Tryz.ntmps5
 go_wp2_with (first | ((with_reducible refine gate_dst (N := 10) rfl ?_); refine box_event ?hg (N := 10) ?hd (cs := #[.slice A0 l0.length c0, .int .i64 0, .int .u64 0]) (t := 59) ?hr ?_; (case hd => rfl); (case hg => rfl); (case hr => first | (go_simp; done) | (go_simp; rfl)); intro gb188 hg w4 hbox hb; have GW188 := gs hg; have GE188 := gs hg; have HI188 := Aside0.mk ((show IsS59 w _ gb188 l0 0 0 from ⟨_, _, hbox, (by rw [hg]; exact (below_size bw)), HR0.out⟩)); replace HB := bs hb; clear hb hbox hg) | ((with_reducible refine gate_callee (f := 38) rfl ?_); refine gl (some 13) Tryz.func38 #[.pointer (some ⟨gb188, 0, none⟩)] ?_; (with_reducible refine (spec_l1Cur_signals.calls k gb188 l0 0 0 t189 t190 t193 t194 w _ ?side1 ?side2 A2.out).mono ?_); (case side1 => exact hi59); (case side2 => exact hb59); rintro e w5 ⟨v191, rfl, ho0, hi, hb, hk⟩; refine ⟨_, rfl, ?_⟩; have HO192 := Aside0.mk (Kd.R_lower ho0 (below_size hb59)); replace HB := Aside0.mk (hb); replace HI188 := Aside0.mk (hi); (try clear hb); (try clear ho0)) | ((with_reducible refine gate_dst (N := 19) rfl ?_); refine Kd.R_lit (Kd.int .i64) _ 3 ?hg (N := 19) ?hd (xs := ([0, 1, 2, 3, 5, 9, 20, 100000, 100001, (-1)] : List Int)) (inner := [.int .i64 0, .int .i64 1, .int .i64 2, .int .i64 3, .int .i64 5, .int .i64 9, .int .i64 20, .int .i64 100000, .int .i64 100001, .int .i64 (-1)]) (ok := fun _ => True) (okp := fun _ => True) ?hr ?hp (fun _ hk => hk) trivial (Below.refl _ _) (Nat.le_refl _) (by simp) ?_; (case hd => rfl); (case hg => rfl); (case hr => first | (go_simp; done) | (go_simp; rfl)); (case hp => exact (Reps.one (show Kd.M (Kd.int .i64) _ _ _ 0 [.int .i64 0] from rfl) (Reps.one (show Kd.M (Kd.int .i64) _ _ _ 1 [.int .i64 1] from rfl) (Reps.one (show Kd.M (Kd.int .i64) _ _ _ 2 [.int .i64 2] from rfl) (Reps.one (show Kd.M (Kd.int .i64) _ _ _ 3 [.int .i64 3] from rfl) (Reps.one (show Kd.M (Kd.int .i64) _ _ _ 5 [.int .i64 5] from rfl) (Reps.one (show Kd.M (Kd.int .i64) _ _ _ 9 [.int .i64 9] from rfl) (Reps.one (show Kd.M (Kd.int .i64) _ _ _ 20 [.int .i64 20] from rfl) (Reps.one (show Kd.M (Kd.int .i64) _ _ _ 100000 [.int .i64 100000] from rfl) (Reps.one (show Kd.M (Kd.int .i64) _ _ _ 100001 [.int .i64 100001] from rfl) (Reps.one (show Kd.M (Kd.int .i64) _ _ _ (-1) [.int .i64 (-1)] from rfl) (Reps.none _ _)))))))))))); intro v196 w6 ho7 hb hg_ hnew_; clear hg_ hnew_; (first | rw [← Ny195.out] at ho7 | (simp only [Int.reduceToNat] at ho7; rw [← Ny195.out] at ho7)); replace HO192 := rl HO192 hb; have HO197 := Aside0.mk (Kd.R_lower ho7 (below_size hb59)); replace HB := bt59 HB hb; replace HI188 := ib59 HI188 hb; clear hb ho7; obtain ⟨Ao8, co8, eo8⟩ := Kd.R_slice HO197.out; subst eo8) | ((with_reducible refine gate_callee (f := 39) rfl ?_); refine gl (some 20) Tryz.func39 #[.pointer (some ⟨gb188, 0, none⟩), .slice Ao8 y195.length co8] ?_; (with_reducible refine (spec_l1Cur_among.calls gb188 l0 t193 t194 _ _ y195 t198 t199 t200 w _ ?side1 ?side2 ?side3 ?side4 ?side5 A3.out).mono ?_); (case side1 => exact hi59); (case side2 => exact hb59); (case side3 => exact rr HO197); (case side4 => exact rn HO197); (case side5 => exact far_slice (IsS59.own_ne HI188.out HO197.out (by decide))); rintro e w9 ⟨rfl, hi, hb, hk⟩; refine ⟨_, rfl, ?_⟩; replace HO192 := Aside0.mk (Kd.R_mono (Kd.R_keep (IsS59.apart (show IsS59 w _ gb188 l0 t193 t194 from hi59) (pr HO192) (by decide)) hk (fun _ h => h.2)) (fun _ h => h.1)); replace HO197 := Aside0.mk (Kd.R_mono (Kd.R_keep (IsS59.apart (show IsS59 w _ gb188 l0 t193 t194 from hi59) (pr HO197) (by decide)) hk (fun _ h => h.2)) (fun _ h => h.1)); replace HB := Aside0.mk (hb); replace HI188 := Aside0.mk (hi); (try clear hb)))
 go_ret3
 exact ⟨_, rs, pr HO192, hb59⟩

/-! ### impl_in: function 56 -/
def impl_in.f (a0 : Int) (a1 : Int) (a2 : Int) : Option (Bool) := if a1 ≤ a0 then (some (decide (a0 ≤ a2))) else (some false)
set_option maxHeartbeats 8000000 in
set_option maxRecDepth 100000 in
theorem impl_in.calls (a0 : Int) (a1 : Int) (a2 : Int) (r : Bool) (w : World) (h : impl_in.f a0 a1 a2 = some r) :
  Calls Tryz.prog 56 #[.int .i64 a0, .int .i64 a1, .int .i64 a2] w fun e w' => e = .returned (.bool r) ∧ Drawn0 w w' := by
 unfold impl_in.f at h
 have H := h
 clear h
 by_cases c4 : a1 ≤ a0
 ·rw [if_pos c4] at H
  have c4b0 : decide (a1 ≤ a0) = true := decide_eq_true c4
  clear c4
  obtain rfl := Option.some.inj H
  go_enter Tryz.func56, Tryz.ntmps56
  go_wp2
  go_ret
  exact ⟨rs, by repeat (first | exact Drawn0.refl _ | apply Drawn0.step)⟩
 ·rw [if_neg c4] at H
  have c4b0 : decide (a1 ≤ a0) = false := decide_eq_false c4
  clear c4
  obtain rfl := Option.some.inj H
  go_enter Tryz.func56, Tryz.ntmps56
  go_wp2
  go_ret
  exact ⟨rs, by repeat (first | exact Drawn0.refl _ | apply Drawn0.step)⟩

/-! ### impl_isSignalRow: function 63 -/
def impl_isSignalRow.f (a0 : Int) : Option (Bool) := (impl_in.f a0 1 100).bind fun t201 => (some t201)
set_option maxHeartbeats 8000000 in
set_option maxRecDepth 100000 in
theorem impl_isSignalRow.calls (a0 : Int) (r : Bool) (w : World) (h : impl_isSignalRow.f a0 = some r) :
  Calls Tryz.prog 63 #[.int .i64 a0] w fun e w' => e = .returned (.bool r) ∧ Drawn0 w w' := by
 unfold impl_isSignalRow.f at h
 have H := h
 clear h
 replace H := Option.bind_eq_some_iff.mp H
 obtain ⟨t201, A20, H⟩ := H
 (try dsimp only at H)
 have A2 := Aside0.mk A20
 clear A20
 obtain rfl := Option.some.inj H
 go_enter Tryz.func63, Tryz.ntmps63
 go_wp2_with (first | ((with_reducible refine gate_callee (f := 56) rfl ?_); refine gl (some 4) Tryz.func56 #[.int .i64 a0, .int .i64 1, .int .i64 100] ?_; (with_reducible refine (impl_in.calls a0 1 100 t201 _ A2.out).mono ?_); rintro e w' ⟨rfl, ⟨nd, rfl⟩⟩; refine ⟨_, rfl, ?_⟩))
 go_ret
 exact ⟨rs, by repeat (first | exact Drawn0.refl _ | apply Drawn0.step)⟩

/-! ### impl_isSignal: function 70 -/
def impl_isSignal.f (a0 : Int) (a1_0 : Int) (a1_1 : Bool) (a1_2 : Int) : Option (Bool) := (impl_isSignalRow.f a0).bind fun t203 => (if t203 = true then ((impl_in.f a1_0 0 (wrap64 (a0 - 1))).bind fun t204 => (if t204 = true then ((impl_in.f a1_2 1 10).bind fun t205 => (some t205)) else (some false))) else (some false))
set_option maxHeartbeats 8000000 in
set_option maxRecDepth 100000 in
theorem impl_isSignal.calls (a0 : Int) (a1_0 : Int) (a1_1 : Bool) (a1_2 : Int) (r : Bool) (w : World) (h : impl_isSignal.f a0 a1_0 a1_1 a1_2 = some r) :
  Calls Tryz.prog 70 #[.int .i64 a0, .agg #[.int .i64 a1_0, .bool a1_1, .int .i64 a1_2]] w fun e w' => e = .returned (.bool r) ∧ Below w.heap.size w w' := by
 have hu36 := Tryz.underlying36
 have HB := Aside0.mk (Below.refl w.heap.size w)
 unfold impl_isSignal.f at h
 have H := h
 clear h
 replace H := Option.bind_eq_some_iff.mp H
 obtain ⟨t203, A30, H⟩ := H
 (try dsimp only at H)
 have A3 := Aside0.mk A30
 clear A30
 by_cases c4 : t203 = true
 ·subst c4
  rw [if_pos rfl] at H
  replace H := Option.bind_eq_some_iff.mp H
  obtain ⟨t204, A50, H⟩ := H
  (try dsimp only at H)
  have A5 := Aside0.mk A50
  clear A50
  by_cases c6 : t204 = true
  ·subst c6
   rw [if_pos rfl] at H
   replace H := Option.bind_eq_some_iff.mp H
   obtain ⟨t205, A70, H⟩ := H
   (try dsimp only at H)
   have A7 := Aside0.mk A70
   clear A70
   obtain rfl := Option.some.inj H
   go_enter Tryz.func70, Tryz.ntmps70
   go_wp2_with (first | ((with_reducible refine gate_dst (N := 3) rfl ?_); refine bx 3 36 #[.int .i64 a1_0, .bool a1_1, .int .i64 a1_2] ?_; intro gb202 hg w8 hbox hb; have BK202 := hbox; have GW202 := gs hg; have GE202 := gs hg; replace HB := bs hb; clear hb hbox hg) | ((with_reducible refine gate_callee (f := 63) rfl ?_); refine gl (some 6) Tryz.func63 #[.int .i64 a0] ?_; (with_reducible refine (impl_isSignalRow.calls a0 true _ A3.out).mono ?_); rintro e w' ⟨rfl, ⟨nd, rfl⟩⟩; refine ⟨_, rfl, ?_⟩; have hcz9_0 := bc BK202 0 (.int .i64 a1_0); have hcz9_1 := bc BK202 1 (.bool a1_1); have hcz9_2 := bc BK202 2 (.int .i64 a1_2); have hfz9_0 := blk_frozen BK202.out 0; have hfz9_1 := blk_frozen BK202.out 1; have hfz9_2 := blk_frozen BK202.out 2) | (go_at_call 56; (with_reducible refine (impl_in.calls a1_0 0 (wrap64 (a0 - 1)) true _ A5.out).mono ?_); rintro e w' ⟨rfl, ⟨nd, rfl⟩⟩) | (go_at_call 56; (with_reducible refine (impl_in.calls a1_2 1 10 t205 _ A7.out).mono ?_); rintro e w' ⟨rfl, ⟨nd, rfl⟩⟩))
   go_ret
   exact ⟨rs, bw⟩
  ·replace c6 := Bool.eq_false_iff.mpr c6
   subst c6
   rw [if_neg (show ¬ (false = true) by decide)] at H
   obtain rfl := Option.some.inj H
   go_enter Tryz.func70, Tryz.ntmps70
   go_wp2_with (first | ((with_reducible refine gate_dst (N := 3) rfl ?_); refine bx 3 36 #[.int .i64 a1_0, .bool a1_1, .int .i64 a1_2] ?_; intro gb202 hg w10 hbox hb; have BK202 := hbox; have GW202 := gs hg; have GE202 := gs hg; replace HB := bs hb; clear hb hbox hg) | ((with_reducible refine gate_callee (f := 63) rfl ?_); refine gl (some 6) Tryz.func63 #[.int .i64 a0] ?_; (with_reducible refine (impl_isSignalRow.calls a0 true _ A3.out).mono ?_); rintro e w' ⟨rfl, ⟨nd, rfl⟩⟩; refine ⟨_, rfl, ?_⟩; have hcz11_0 := bc BK202 0 (.int .i64 a1_0); have hcz11_1 := bc BK202 1 (.bool a1_1); have hcz11_2 := bc BK202 2 (.int .i64 a1_2); have hfz11_0 := blk_frozen BK202.out 0; have hfz11_1 := blk_frozen BK202.out 1; have hfz11_2 := blk_frozen BK202.out 2) | (go_at_call 56; (with_reducible refine (impl_in.calls a1_0 0 (wrap64 (a0 - 1)) false _ A5.out).mono ?_); rintro e w' ⟨rfl, ⟨nd, rfl⟩⟩))
   go_ret
   exact ⟨rs, bw⟩
 ·replace c4 := Bool.eq_false_iff.mpr c4
  subst c4
  rw [if_neg (show ¬ (false = true) by decide)] at H
  obtain rfl := Option.some.inj H
  go_enter Tryz.func70, Tryz.ntmps70
  go_wp2_with (first | ((with_reducible refine gate_dst (N := 3) rfl ?_); refine bx 3 36 #[.int .i64 a1_0, .bool a1_1, .int .i64 a1_2] ?_; intro gb202 hg w12 hbox hb; have BK202 := hbox; have GW202 := gs hg; have GE202 := gs hg; replace HB := bs hb; clear hb hbox hg) | ((with_reducible refine gate_callee (f := 63) rfl ?_); refine gl (some 6) Tryz.func63 #[.int .i64 a0] ?_; (with_reducible refine (impl_isSignalRow.calls a0 false _ A3.out).mono ?_); rintro e w' ⟨rfl, ⟨nd, rfl⟩⟩; refine ⟨_, rfl, ?_⟩))
  go_ret
  exact ⟨rs, bw⟩

/-! ### impl_areSignals: function 40 -/
def impl_areSignals_clo.f (s0 : Int) (x0 : Int) (x1 : Bool) (x2 : Int) : Option Bool := (impl_isSignal.f s0 x0 x1 x2).bind fun t => some (!t)
set_option maxHeartbeats 8000000 in
set_option maxRecDepth 100000 in
theorem impl_areSignals_clo.calls (g : Nat) (s0 : Int) (x0 : Int) (x1 : Bool) (x2 : Int) (r : Bool) (w : World) (hg0 : w.cell? ⟨g, 0, none⟩ = some (.int .i64 s0)) (h : impl_areSignals_clo.f s0 x0 x1 x2 = some r) :
  Calls Tryz.prog 82 (#[.agg #[.int .i64 x0, .bool x1, .int .i64 x2]] ++ #[.pointer (some ⟨g, 0, none⟩)]) w fun e w' => e = .returned (.bool r) ∧ Below w.heap.size w w' := by
 have hu := Tryz.underlying36
 have HB := Aside0.mk (Below.refl w.heap.size w)
 have HG0 := Aside0.mk hg0
 clear hg0
 replace h := Option.bind_eq_some_iff.mp h
 obtain ⟨t, A0, H⟩ := h
 have A1 := Aside0.mk A0
 clear A0
 obtain rfl := Option.some.inj H
 clear H
 show Calls Tryz.prog 82 #[.agg #[.int .i64 x0, .bool x1, .int .i64 x2], .pointer (some ⟨g, 0, none⟩)] w _
 go_enter Tryz.func82, Tryz.ntmps82
 go_wp2_with (first | ((with_reducible refine gate_dst (N := 2) rfl ?_); refine box_event ?hg (N := 2) ?hd (cs := #[.int .i64 x0, .bool x1, .int .i64 x2]) (t := 36) ?hr ?_; (case hd => rfl); (case hg => rfl); (case hr => first | (go_simp; done) | (go_simp; rfl)); intro gb hg w8 hbox hb; have n0_ := Aside0.mk (below_step (by repeat (first | exact HB.out | apply pw_below_drewN)) hb); have n1_ := Aside0.mk hbox; have hcg0 : w8.cell? ⟨g, 0, none⟩ = some (.int .i64 s0) := (hb.cell (World.block_lt_of_cell? w _ HG0.out)).trans HG0.out; have hcz0 : w8.cell? ⟨gb, 0, none⟩ = some (.int .i64 x0) := (blk_cell n1_.out 0).trans rfl; have hcz1 : w8.cell? ⟨gb, 1, none⟩ = some (.bool x1) := (blk_cell n1_.out 1).trans rfl; have hcz2 : w8.cell? ⟨gb, 2, none⟩ = some (.int .i64 x2) := (blk_cell n1_.out 2).trans rfl; clear HB; have HB := n0_; have BK1 := n1_; clear n0_ n1_ hb hbox hg) | (go_at_call 70; (with_reducible refine (impl_isSignal.calls s0 x0 x1 x2 t _ A1.out).mono ?_); rintro e w' ⟨rfl, hb⟩; have n0_ := Aside0.mk (below_step HB.out hb); clear HB; have HB := n0_; clear n0_ hb))
 go_ret
 exact ⟨by first | rfl | simp, by repeat (first | exact HB.out | apply pw_below_drewN)⟩
def impl_areSignals_idx.l0 : Nat → Int → List (S36) → Int → Option Int
  | 0, _, _, _ => none
  | k + 1, s0, l, i => if i < (l.length : Int) then (if 0 ≤ i then ((impl_areSignals_clo.f s0 (rd_T36 l i).f0 (rd_T36 l i).f1 (rd_T36 l i).f2).bind fun t => (if t = true then (some i) else (impl_areSignals_idx.l0 k s0 l (wrap64 (i + 1))))) else none) else (some (-1))
theorem impl_areSignals_idx.mono_l : ∀ k, (∀ y0 y1 y2, LeO (impl_areSignals_idx.l0 k y0 y1 y2) (impl_areSignals_idx.l0 (k + 1) y0 y1 y2))
  | 0 => fun _ _ _ r h => by simp [impl_areSignals_idx.l0] at h
  | k + 1 => by
    have ih0 := impl_areSignals_idx.mono_l k
    · intro y0 y1 y2
      unfold impl_areSignals_idx.l0
      repeat' first
      | (with_reducible exact ih0 _ _ _)
      | (with_reducible exact LeO.refl _)
      | (with_reducible exact LeO.none _)
      | (with_reducible refine LeO.ite ?_ ?_)
      | (with_reducible refine LeO.bind ?_ (fun _ => ?_))
set_option maxHeartbeats 8000000 in
set_option maxRecDepth 100000 in
theorem impl_areSignals_idx.calls (k : Nat) (g : Nat) (s0 : Int) (A0 : Option Addr) (c0 : Nat) (l0 : List (S36)) (r : Int) (w : World) (hr0 : Kd.C k36 w A0 l0.length l0) (hc0 : l0.length ≤ c0) (hg0 : w.cell? ⟨g, 0, none⟩ = some (.int .i64 s0)) (h : impl_areSignals_idx.l0 k s0 l0 0 = some r) :
  Calls Tryz.prog 99 #[.slice A0 l0.length c0, .func (.func 82) #[] #[.pointer (some ⟨g, 0, none⟩)]] w fun e w' => e = .returned (.int .i64 r) ∧ Below w.heap.size w w' := by
 have hu := Tryz.underlying36
 have HR0 := Aside0.mk hr0
 have HC0 := Aside0.mk hc0
 clear hr0 hc0
 have HG0 := Aside0.mk hg0
 clear hg0
 have HB := Aside0.mk (Below.refl w.heap.size w)
 have H' := Aside0.mk h
 clear h
 go_enter Tryz.func99, Tryz.ntmps99
 go_wp2
 go_loopg [8] k (fun kq v8 w' => ∃ (x8 : Int), v8 = .int .i64 x8 ∧ Aside0 (impl_areSignals_idx.l0 kq s0 l0 x8 = some r) ∧ Aside0 (kq ≤ k) ∧ Aside0 (Below w.heap.size w w'))
 case atStart => exact ⟨(0), (rs), H', ⟨Nat.le_refl _⟩, HB⟩
 case round =>
  clear H' HB
  obtain ⟨x8, rfl, HA, HK1, HB⟩ := hrel
  cases gk with
  | zero => exact absurd HA.out (by simp [impl_areSignals_idx.l0])
  | succ k1 =>
   have H := HA.out
   clear HA
   simp only [impl_areSignals_idx.l0] at H
   by_cases c4 : x8 < (l0.length : Int)
   ·rw [if_pos c4] at H
    have c4b0 : decide (x8 < (l0.length : Int)) = true := decide_eq_true c4
    by_cases c5 : 0 ≤ x8
    ·rw [if_pos c5] at H
     have c5b0 : decide (0 ≤ x8) = true := decide_eq_true c5
     replace H := Option.bind_eq_some_iff.mp H
     obtain ⟨t1, A0', H⟩ := H
     have A1 := Aside0.mk A0'
     clear A0'
     obtain ⟨ad, e1, hx0, hx1, hx2⟩ := at_T36 HR0.out x8 c5 c4
     cases e1
     replace hx0 := (HB.out.cell (World.block_lt_of_cell? w _ hx0)).trans hx0
     replace hx1 := (HB.out.cell (World.block_lt_of_cell? w _ hx1)).trans hx1
     replace hx2 := (HB.out.cell (World.block_lt_of_cell? w _ hx2)).trans hx2
     have p1 := eq_true c5
     have q1 := eq_true c4
     clear c4 c5
     cases t1 with
     | true =>
      obtain rfl := Option.some.inj H
      clear H
      go_wp2_with (((with_reducible refine gate_dst (N := 16) rfl ?_); refine Fv.goesV_ (some 16) rfl rfl Tryz.func82 (by kernel_rfl) rfl #[.agg #[.int .i64 (rd_T36 l0 x8).f0, .bool (rd_T36 l0 x8).f1, .int .i64 (rd_T36 l0 x8).f2]] rfl (by first | rfl | (go_simp; done)) (by first | rfl | (go_simp; done)) ?_; (refine (impl_areSignals_clo.calls g s0  _ _ _ _ _ ((HB.out.cell (World.block_lt_of_cell? w _ HG0.out)).trans HG0.out) A1.out).mono ?_); rintro e w' ⟨rfl, hb⟩; refine ⟨_, rfl, ?_⟩; have n0_ := Aside0.mk (below_step HB.out hb); clear HB; have HB := n0_; clear n0_ hb))
      go_ret
      exact ⟨by first | rfl | simp, HB.out⟩
     | false =>
      have H' := Aside0.mk (show impl_areSignals_idx.l0 k1 s0 l0 (wrap64 (x8 + 1)) = some r from by simpa using H)
      clear H
      go_wp2_with (((with_reducible refine gate_dst (N := 16) rfl ?_); refine Fv.goesV_ (some 16) rfl rfl Tryz.func82 (by kernel_rfl) rfl #[.agg #[.int .i64 (rd_T36 l0 x8).f0, .bool (rd_T36 l0 x8).f1, .int .i64 (rd_T36 l0 x8).f2]] rfl (by first | rfl | (go_simp; done)) (by first | rfl | (go_simp; done)) ?_; (refine (impl_areSignals_clo.calls g s0  _ _ _ _ _ ((HB.out.cell (World.block_lt_of_cell? w _ HG0.out)).trans HG0.out) A1.out).mono ?_); rintro e w' ⟨rfl, hb⟩; refine ⟨_, rfl, ?_⟩; have n0_ := Aside0.mk (below_step HB.out hb); clear HB; have HB := n0_; clear n0_ hb))
      go_roundg k1
      case measure => have := HK1.out; omega
      case rel => exact ⟨(wrap64 (x8 + 1)), (rs), H', ⟨by have := HK1.out; omega⟩, HB⟩
    ·rw [if_neg c5] at H
     exact absurd H (by simp)
   ·rw [if_neg c4] at H
    have c4b0 : decide (x8 < (l0.length : Int)) = false := decide_eq_false c4
    clear c4
    obtain rfl := Option.some.inj H
    clear H
    go_wp2
    go_ret
    exact ⟨by first | rfl | simp, HB.out⟩
def impl_areSignals_has.f (k : Nat) (s0 : Int) (l : List (S36)) : Option Bool := (impl_areSignals_idx.l0 k s0 l 0).bind fun i => some (decide (0 ≤ i))
theorem impl_areSignals_has.mono : ∀ s0 a0 k, LeO (impl_areSignals_has.f k s0 a0) (impl_areSignals_has.f (k + 1) s0 a0) := by
  intro s0 a0 k
  unfold impl_areSignals_has.f
  repeat' first
      | (with_reducible exact impl_areSignals_idx.mono_l k _ _ _)
      | (with_reducible exact LeO.refl _)
      | (with_reducible exact LeO.none _)
      | (with_reducible refine LeO.ite ?_ ?_)
      | (with_reducible refine LeO.bind ?_ (fun _ => ?_))
set_option maxHeartbeats 8000000 in
set_option maxRecDepth 100000 in
theorem impl_areSignals_has.calls (k : Nat) (g : Nat) (s0 : Int) (A0 : Option Addr) (c0 : Nat) (l0 : List (S36)) (r : Bool) (w : World) (hr0 : Kd.C k36 w A0 l0.length l0) (hc0 : l0.length ≤ c0) (hg0 : w.cell? ⟨g, 0, none⟩ = some (.int .i64 s0)) (h : impl_areSignals_has.f k s0 l0 = some r) :
  Calls Tryz.prog 81 #[.slice A0 l0.length c0, .func (.func 82) #[] #[.pointer (some ⟨g, 0, none⟩)]] w fun e w' => e = .returned (.bool r) ∧ Below w.heap.size w w' := by
 have HR0 := Aside0.mk hr0
 have HC0 := Aside0.mk hc0
 clear hr0 hc0
 have HG0 := Aside0.mk hg0
 clear hg0
 have HB := Aside0.mk (Below.refl w.heap.size w)
 replace h := Option.bind_eq_some_iff.mp h
 obtain ⟨t, A0', H⟩ := h
 have A1 := Aside0.mk A0'
 clear A0'
 obtain rfl := Option.some.inj H
 clear H
 go_enter Tryz.func81, Tryz.ntmps81
 go_wp2_with (go_at_call 99; (refine (impl_areSignals_idx.calls k g s0 A0 c0 l0 t _ HR0.out HC0.out HG0.out A1.out).mono ?_); rintro e w' ⟨rfl, hb⟩; have n0_ := Aside0.mk (below_step HB.out hb); clear HB; have HB := n0_; clear n0_ hb)
 go_ret
 exact ⟨by first | rfl | simp, HB.out⟩
def impl_areSignals.f (k : Nat) (a0 : Int) (l1 : List S36) : Option Bool := (impl_isSignalRow.f a0).bind fun t1 => (if t1 = true then ((impl_in.f (l1.length : Int) 1 10).bind fun t2 => (if t2 = true then ((impl_areSignals_has.f k a0 l1).bind fun t3 => (some (!t3))) else (some false))) else (some false))
theorem impl_areSignals.mono : ∀ a0 a1 k, LeO (impl_areSignals.f k a0 a1) (impl_areSignals.f (k + 1) a0 a1) := by
  intro a0 a1 k
  unfold impl_areSignals.f
  repeat' first
      | (with_reducible exact impl_areSignals_has.mono _ _ k)
      | (with_reducible exact LeO.refl _)
      | (with_reducible exact LeO.none _)
      | (with_reducible refine LeO.ite ?_ ?_)
      | (with_reducible refine LeO.bind ?_ (fun _ => ?_))
set_option maxHeartbeats 8000000 in
set_option maxRecDepth 100000 in
theorem impl_areSignals.calls (k : Nat) (a0 : Int) (A1 : Option Addr) (c1 : Nat) (l1 : List (S36)) (r : Bool) (w : World) (hr1 : Kd.C k36 w A1 l1.length l1) (hc1 : l1.length ≤ c1) (h : impl_areSignals.f k a0 l1 = some r) :
  Calls Tryz.prog 40 #[.int .i64 a0, .slice A1 l1.length c1] w fun e w' => e = .returned (.bool r) ∧ Below w.heap.size w w' := by
 have HR1 := Aside0.mk hr1
 have HC1 := Aside0.mk hc1
 clear hr1 hc1
 have HB := Aside0.mk (Below.refl w.heap.size w)
 replace h := Option.bind_eq_some_iff.mp h
 obtain ⟨t1, A0', H⟩ := h
 have Ax := Aside0.mk A0'
 clear A0'
 have hu3 := Tryz.underlying3
 cases t1 with
 | false =>
  obtain rfl := Option.some.inj (show (some false) = some r from by simpa using H)
  clear H
  go_enter Tryz.func40, Tryz.ntmps40
  go_wp2_with (first | ((with_reducible refine gate_dst (N := 2) rfl ?_); refine box_event ?hg (N := 2) ?hd (cs := #[.int .i64 a0]) (t := 3) ?hr ?_; (case hd => rfl); (case hg => rfl); (case hr => first | (go_simp; done) | (go_simp; rfl)); intro gb hg w8 hbox hb; have n0_ := Aside0.mk (below_step (by repeat (first | exact HB.out | apply pw_below_drewN)) hb); have n1_ := Aside0.mk hbox; have hcz0 : w8.cell? ⟨gb, 0, none⟩ = some (.int .i64 a0) := (blk_cell n1_.out 0).trans rfl; clear HB; have HB := n0_; have BK1 := n1_; clear n0_ n1_ hb hbox hg) | (go_at_call 63; (with_reducible refine (impl_isSignalRow.calls a0 false _ Ax.out).mono ?_); rintro e w' ⟨rfl, ⟨nd, rfl⟩⟩))
  go_ret
  exact ⟨by first | rfl | simp, by repeat (first | exact HB.out | apply pw_below_drewN)⟩
 | true =>
  replace H : ((impl_in.f (l1.length : Int) 1 10).bind fun t2 => (if t2 = true then ((impl_areSignals_has.f k a0 l1).bind fun t3 => (some (!t3))) else (some false))) = some r := by simpa using H
  replace H := Option.bind_eq_some_iff.mp H
  obtain ⟨t2, A0', H⟩ := H
  have Ay := Aside0.mk A0'
  clear A0'
  cases t2 with
  | false =>
   obtain rfl := Option.some.inj (show (some false) = some r from by simpa using H)
   clear H
   go_enter Tryz.func40, Tryz.ntmps40
   go_wp2_with (first | ((with_reducible refine gate_dst (N := 2) rfl ?_); refine box_event ?hg (N := 2) ?hd (cs := #[.int .i64 a0]) (t := 3) ?hr ?_; (case hd => rfl); (case hg => rfl); (case hr => first | (go_simp; done) | (go_simp; rfl)); intro gb hg w8 hbox hb; have n0_ := Aside0.mk (below_step (by repeat (first | exact HB.out | apply pw_below_drewN)) hb); have n1_ := Aside0.mk hbox; have hcz0 : w8.cell? ⟨gb, 0, none⟩ = some (.int .i64 a0) := (blk_cell n1_.out 0).trans rfl; clear HB; have HB := n0_; have BK1 := n1_; clear n0_ n1_ hb hbox hg) | (go_at_call 63; (with_reducible refine (impl_isSignalRow.calls a0 true _ Ax.out).mono ?_); rintro e w' ⟨rfl, ⟨nd, rfl⟩⟩) | (go_at_call 56; (with_reducible refine (impl_in.calls (l1.length : Int) 1 10 false _ Ay.out).mono ?_); rintro e w' ⟨rfl, ⟨nd2, rfl⟩⟩))
   go_ret
   exact ⟨by first | rfl | simp, by repeat (first | exact HB.out | apply pw_below_drewN)⟩
  | true =>
   replace H : ((impl_areSignals_has.f k a0 l1).bind fun t3 => (some (!t3))) = some r := by simpa using H
   replace H := Option.bind_eq_some_iff.mp H
   obtain ⟨t3, A0', H⟩ := H
   have Az := Aside0.mk A0'
   clear A0'
   obtain rfl := Option.some.inj H
   clear H
   go_enter Tryz.func40, Tryz.ntmps40
   go_wp2_with (first | ((with_reducible refine gate_dst (N := 2) rfl ?_); refine box_event ?hg (N := 2) ?hd (cs := #[.int .i64 a0]) (t := 3) ?hr ?_; (case hd => rfl); (case hg => rfl); (case hr => first | (go_simp; done) | (go_simp; rfl)); intro gb hg w8 hbox hb; have n0_ := Aside0.mk (below_step (by repeat (first | exact HB.out | apply pw_below_drewN)) hb); have n1_ := Aside0.mk hbox; have hcz0 : w8.cell? ⟨gb, 0, none⟩ = some (.int .i64 a0) := (blk_cell n1_.out 0).trans rfl; clear HB; have HB := n0_; have BK1 := n1_; clear n0_ n1_ hb hbox hg) | (go_at_call 63; (with_reducible refine (impl_isSignalRow.calls a0 true _ Ax.out).mono ?_); rintro e w' ⟨rfl, ⟨nd, rfl⟩⟩) | (go_at_call 56; (with_reducible refine (impl_in.calls (l1.length : Int) 1 10 true _ Ay.out).mono ?_); rintro e w' ⟨rfl, ⟨nd2, rfl⟩⟩) | (go_at_call 81; (refine (impl_areSignals_has.calls k gb a0 A1 c1 l1 t3 _ (Kd.C_below HR1.out (by repeat (first | exact HB.out | apply pw_below_drewN))) HC1.out (by first | exact hcz0 | (go_simp; done)) Az.out).mono ?_); rintro e w' ⟨rfl, hb⟩; have n0_ := Aside0.mk (below_step (by repeat (first | exact HB.out | apply pw_below_drewN)) hb); clear HB; have HB := n0_; clear n0_ hb))
   go_ret
   exact ⟨by first | rfl | simp, by repeat (first | exact HB.out | apply pw_below_drewN)⟩

/-! ### impl_isSignalTime: function 41 -/
def impl_isSignalTime.f (a0 : Int) : Option (Bool) := (impl_in.f a0 0 100000).bind fun t206 => (some t206)
set_option maxHeartbeats 8000000 in
set_option maxRecDepth 100000 in
theorem impl_isSignalTime.calls (a0 : Int) (r : Bool) (w : World) (h : impl_isSignalTime.f a0 = some r) :
  Calls Tryz.prog 41 #[.int .i64 a0] w fun e w' => e = .returned (.bool r) ∧ Drawn0 w w' := by
 unfold impl_isSignalTime.f at h
 have H := h
 clear h
 replace H := Option.bind_eq_some_iff.mp H
 obtain ⟨t206, A20, H⟩ := H
 (try dsimp only at H)
 have A2 := Aside0.mk A20
 clear A20
 obtain rfl := Option.some.inj H
 go_enter Tryz.func41, Tryz.ntmps41
 go_wp2_with (first | ((with_reducible refine gate_callee (f := 56) rfl ?_); refine gl (some 4) Tryz.func56 #[.int .i64 a0, .int .i64 0, .int .i64 100000] ?_; (with_reducible refine (impl_in.calls a0 0 100000 t206 _ A2.out).mono ?_); rintro e w' ⟨rfl, ⟨nd, rfl⟩⟩; refine ⟨_, rfl, ?_⟩))
 go_ret
 exact ⟨rs, by repeat (first | exact Drawn0.refl _ | apply Drawn0.step)⟩

/-! ### impl_around: function 84 -/
def impl_around.f (a0 : Int) : Option (Int) := some (mx (wrap64 (2 * (wrap64 (a0 - 1)))) 1)
set_option maxHeartbeats 8000000 in
set_option maxRecDepth 100000 in
theorem impl_around.calls (a0 : Int) (r : Int) (w : World) (h : impl_around.f a0 = some r) :
  Calls Tryz.prog 84 #[.int .i64 a0] w fun e w' => e = .returned (.int .i64 r) ∧ Below w.heap.size w w' := by
 have HB := Aside0.mk (Below.refl w.heap.size w)
 unfold impl_around.f at h
 have H := h
 clear h
 obtain ⟨ji2, hji2⟩ : ∃ j_ : Int, (mx (wrap64 (2 * (wrap64 (a0 - 1)))) 1) = j_ := ⟨_, rfl⟩
 replace H : (some ji2) = some r := by first | (rw [hji2] at H; exact H) | (simp only [hji2] at H ⊢; exact H)
 (try (have hji2l : 1 ≤ ji2 := by (rw [← hji2]; unfold mx; (repeat' split) <;> omega)))
 (try (have hji2m : 0 ≤ ji2 := by omega))
 have hji2_ : (if (wrap64 (2 * (wrap64 (a0 - 1)))) < 1 then 1 else (wrap64 (2 * (wrap64 (a0 - 1))))) = ji2 := hji2
 obtain rfl := Option.some.inj H
 go_enter Tryz.func84, Tryz.ntmps84
 go_wp2
 go_ret
 exact ⟨by first | rfl | (simp [errW_none, errW_some] <;> rfl) | (simp only [← hji2]; first | rfl | (simp [errW_none, errW_some] <;> rfl)) | (simp [*, errW_none, errW_some] <;> rfl), bw⟩

/-! ### impl_Signal_place: function 67 -/
def impl_Signal_place.f (a0_0 : Int) (a0_1 : Bool) (a0_2 : Int) (a1 : Int) (a2 : Int) : Option (Int) := if a1 = 1 then (some 0) else ((impl_around.f a1).bind fun t208 => (if a0_1 = true then (if a0_2 = 0 then (none) else (if t208 = 0 then (none) else (some (mn (Int.tmod (wrap64 ((wrap64 (t208 - a0_0)) + (wrap64 (Int.tdiv a2 a0_2)))) t208) (wrap64 (t208 - (Int.tmod (wrap64 ((wrap64 (t208 - a0_0)) + (wrap64 (Int.tdiv a2 a0_2)))) t208))))))) else (if a0_2 = 0 then (none) else (if t208 = 0 then (none) else (some (mn (Int.tmod (wrap64 (a0_0 + (wrap64 (Int.tdiv a2 a0_2)))) t208) (wrap64 (t208 - (Int.tmod (wrap64 (a0_0 + (wrap64 (Int.tdiv a2 a0_2)))) t208)))))))))
set_option maxHeartbeats 8000000 in
set_option maxRecDepth 100000 in
theorem impl_Signal_place.calls (a0_0 : Int) (a0_1 : Bool) (a0_2 : Int) (a1 : Int) (a2 : Int) (r : Int) (w : World) (h : impl_Signal_place.f a0_0 a0_1 a0_2 a1 a2 = some r) :
  Calls Tryz.prog 67 #[.agg #[.int .i64 a0_0, .bool a0_1, .int .i64 a0_2], .int .i64 a1, .int .i64 a2] w fun e w' => e = .returned (.int .i64 r) ∧ Below w.heap.size w w' := by
 have hu36 := Tryz.underlying36
 have HB := Aside0.mk (Below.refl w.heap.size w)
 unfold impl_Signal_place.f at h
 have H := h
 clear h
 by_cases c4 : a1 = 1
 ·rw [if_pos c4] at H
  have c4b0 : (a1 == 1) = true := beq_iff_eq.mpr c4
  have c4b1 : (a1 != 1) = false := bne_eq_false_iff_eq.mpr c4
  clear c4
  obtain rfl := Option.some.inj H
  go_enter Tryz.func67, Tryz.ntmps67
  go_wp2_with (first | ((with_reducible refine gate_dst (N := 3) rfl ?_); refine bx 3 36 #[.int .i64 a0_0, .bool a0_1, .int .i64 a0_2] ?_; intro gb207 hg w5 hbox hb; have BK207 := hbox; have GW207 := gs hg; have GE207 := gs hg; replace HB := bs hb; clear hb hbox hg))
  go_ret
  exact ⟨rs, bw⟩
 ·rw [if_neg c4] at H
  have c4b0 : (a1 == 1) = false := beq_eq_false_iff_ne.mpr c4
  have c4b1 : (a1 != 1) = true := bne_iff_ne.mpr c4
  replace H := Option.bind_eq_some_iff.mp H
  obtain ⟨t208, A60, H⟩ := H
  (try dsimp only at H)
  have A6 := Aside0.mk A60
  clear A60
  by_cases c7 : a0_1 = true
  ·subst c7
   rw [if_pos rfl] at H
   by_cases c8 : a0_2 = 0
   ·rw [if_pos c8] at H
    exact absurd H (by simp)
   ·rw [if_neg c8] at H
    have c8b0 : (a0_2 == 0) = false := beq_eq_false_iff_ne.mpr c8
    have c8b1 : (a0_2 != 0) = true := bne_iff_ne.mpr c8
    by_cases c9 : t208 = 0
    ·rw [if_pos c9] at H
     exact absurd H (by simp)
    ·rw [if_neg c9] at H
     have c9b0 : (t208 == 0) = false := beq_eq_false_iff_ne.mpr c9
     have c9b1 : (t208 != 0) = true := bne_iff_ne.mpr c9
     obtain ⟨ji10, hji10⟩ : ∃ j_ : Int, (mn (Int.tmod (wrap64 ((wrap64 (t208 - a0_0)) + (wrap64 (Int.tdiv a2 a0_2)))) t208) (wrap64 (t208 - (Int.tmod (wrap64 ((wrap64 (t208 - a0_0)) + (wrap64 (Int.tdiv a2 a0_2)))) t208)))) = j_ := ⟨_, rfl⟩
     replace H : (some ji10) = some r := by first | (rw [hji10] at H; exact H) | (simp only [hji10] at H ⊢; exact H)
     (try rw [hji10] at A6)
     have hji10_ : (if (wrap64 (t208 - (Int.tmod (wrap64 ((wrap64 (t208 - a0_0)) + (wrap64 (Int.tdiv a2 a0_2)))) t208))) < (Int.tmod (wrap64 ((wrap64 (t208 - a0_0)) + (wrap64 (Int.tdiv a2 a0_2)))) t208) then (wrap64 (t208 - (Int.tmod (wrap64 ((wrap64 (t208 - a0_0)) + (wrap64 (Int.tdiv a2 a0_2)))) t208))) else (Int.tmod (wrap64 ((wrap64 (t208 - a0_0)) + (wrap64 (Int.tdiv a2 a0_2)))) t208)) = ji10 := hji10
     obtain rfl := Option.some.inj H
     go_enter Tryz.func67, Tryz.ntmps67
     go_wp2_with (first | ((with_reducible refine gate_dst (N := 3) rfl ?_); refine bx 3 36 #[.int .i64 a0_0, .bool true, .int .i64 a0_2] ?_; intro gb207 hg w11 hbox hb; have BK207 := hbox; have GW207 := gs hg; have GE207 := gs hg; replace HB := bs hb; clear hb hbox hg) | ((with_reducible refine gate_callee (f := 84) rfl ?_); refine gl (some 12) Tryz.func84 #[.int .i64 a1] ?_; (with_reducible refine (impl_around.calls a1 t208 _ A6.out).mono ?_); rintro e w12 ⟨rfl, hb⟩; refine ⟨_, rfl, ?_⟩; replace BK207 := nk BK207 hb; replace HB := bs hb; (try clear hb); have hcz13_0 := bc BK207 0 (.int .i64 a0_0); have hcz13_1 := bc BK207 1 (.bool true); have hcz13_2 := bc BK207 2 (.int .i64 a0_2); have hfz13_0 := blk_frozen BK207.out 0; have hfz13_1 := blk_frozen BK207.out 1; have hfz13_2 := blk_frozen BK207.out 2))
     go_ret
     exact ⟨by first | rfl | (simp [errW_none, errW_some] <;> rfl) | (simp only [← hji10]; first | rfl | (simp [errW_none, errW_some] <;> rfl)) | (simp [*, errW_none, errW_some] <;> rfl), bw⟩
  ·replace c7 := Bool.eq_false_iff.mpr c7
   subst c7
   rw [if_neg (show ¬ (false = true) by decide)] at H
   by_cases c14 : a0_2 = 0
   ·rw [if_pos c14] at H
    exact absurd H (by simp)
   ·rw [if_neg c14] at H
    have c14b0 : (a0_2 == 0) = false := beq_eq_false_iff_ne.mpr c14
    have c14b1 : (a0_2 != 0) = true := bne_iff_ne.mpr c14
    by_cases c15 : t208 = 0
    ·rw [if_pos c15] at H
     exact absurd H (by simp)
    ·rw [if_neg c15] at H
     have c15b0 : (t208 == 0) = false := beq_eq_false_iff_ne.mpr c15
     have c15b1 : (t208 != 0) = true := bne_iff_ne.mpr c15
     obtain ⟨ji16, hji16⟩ : ∃ j_ : Int, (mn (Int.tmod (wrap64 (a0_0 + (wrap64 (Int.tdiv a2 a0_2)))) t208) (wrap64 (t208 - (Int.tmod (wrap64 (a0_0 + (wrap64 (Int.tdiv a2 a0_2)))) t208)))) = j_ := ⟨_, rfl⟩
     replace H : (some ji16) = some r := by first | (rw [hji16] at H; exact H) | (simp only [hji16] at H ⊢; exact H)
     (try rw [hji16] at A6)
     have hji16_ : (if (wrap64 (t208 - (Int.tmod (wrap64 (a0_0 + (wrap64 (Int.tdiv a2 a0_2)))) t208))) < (Int.tmod (wrap64 (a0_0 + (wrap64 (Int.tdiv a2 a0_2)))) t208) then (wrap64 (t208 - (Int.tmod (wrap64 (a0_0 + (wrap64 (Int.tdiv a2 a0_2)))) t208))) else (Int.tmod (wrap64 (a0_0 + (wrap64 (Int.tdiv a2 a0_2)))) t208)) = ji16 := hji16
     obtain rfl := Option.some.inj H
     go_enter Tryz.func67, Tryz.ntmps67
     go_wp2_with (first | ((with_reducible refine gate_dst (N := 3) rfl ?_); refine bx 3 36 #[.int .i64 a0_0, .bool false, .int .i64 a0_2] ?_; intro gb207 hg w17 hbox hb; have BK207 := hbox; have GW207 := gs hg; have GE207 := gs hg; replace HB := bs hb; clear hb hbox hg) | ((with_reducible refine gate_callee (f := 84) rfl ?_); refine gl (some 12) Tryz.func84 #[.int .i64 a1] ?_; (with_reducible refine (impl_around.calls a1 t208 _ A6.out).mono ?_); rintro e w18 ⟨rfl, hb⟩; refine ⟨_, rfl, ?_⟩; replace BK207 := nk BK207 hb; replace HB := bs hb; (try clear hb); have hcz19_0 := bc BK207 0 (.int .i64 a0_0); have hcz19_1 := bc BK207 1 (.bool false); have hcz19_2 := bc BK207 2 (.int .i64 a0_2); have hfz19_0 := blk_frozen BK207.out 0; have hfz19_1 := blk_frozen BK207.out 1; have hfz19_2 := blk_frozen BK207.out 2))
     go_ret
     exact ⟨by first | rfl | (simp [errW_none, errW_some] <;> rfl) | (simp only [← hji16]; first | rfl | (simp [errW_none, errW_some] <;> rfl)) | (simp [*, errW_none, errW_some] <;> rfl), bw⟩

/-! ### bits_Mul32: function 112 -/
def bits_Mul32.f (a0 : Int) (a1 : Int) : Option (Int × Int) := some (((IntKind.u64.wrap ((IntKind.u64.wrap (a0)) * (IntKind.u64.wrap (a1)))) / 4294967296) % 4294967296, (IntKind.u64.wrap ((IntKind.u64.wrap (a0)) * (IntKind.u64.wrap (a1)))) % 4294967296)
set_option maxHeartbeats 8000000 in
set_option maxRecDepth 100000 in
theorem bits_Mul32.calls (a0 : Int) (a1 : Int) (r1 : Int) (r2 : Int) (w : World) (h : bits_Mul32.f a0 a1 = some (r1, r2)) :
  Calls Tryz.prog 112 #[.int .u32 a0, .int .u32 a1] w fun e w' => e = .returned (.tuple #[.int .u32 r1, .int .u32 r2]) ∧ Drawn0 w w' := by
 unfold bits_Mul32.f at h
 have H := h
 clear h
 simp only [Option.some.injEq, Prod.mk.injEq] at H
 obtain ⟨rfl, rfl⟩ := H
 go_enter Tryz.func112, Tryz.ntmps112
 go_wp2
 go_ret2
 exact ⟨rs, by repeat (first | exact Drawn0.refl _ | apply Drawn0.step)⟩

/-! ### bits_Mul64: function 113 -/
def bits_Mul64.f (a0 : Int) (a1 : Int) : Option (Int × Int) := some (IntKind.u64.wrap ((IntKind.u64.wrap ((IntKind.u64.wrap ((a0 / 4294967296) * (a1 / 4294967296))) + ((IntKind.u64.wrap ((IntKind.u64.wrap ((a0 / 4294967296) * (Go.bits .and .u64 a1 4294967295))) + ((IntKind.u64.wrap ((Go.bits .and .u64 a0 4294967295) * (Go.bits .and .u64 a1 4294967295))) / 4294967296))) / 4294967296))) + ((IntKind.u64.wrap ((Go.bits .and .u64 (IntKind.u64.wrap ((IntKind.u64.wrap ((a0 / 4294967296) * (Go.bits .and .u64 a1 4294967295))) + ((IntKind.u64.wrap ((Go.bits .and .u64 a0 4294967295) * (Go.bits .and .u64 a1 4294967295))) / 4294967296))) 4294967295) + (IntKind.u64.wrap ((Go.bits .and .u64 a0 4294967295) * (a1 / 4294967296))))) / 4294967296)), IntKind.u64.wrap (a0 * a1))
set_option maxHeartbeats 8000000 in
set_option maxRecDepth 100000 in
theorem bits_Mul64.calls (a0 : Int) (a1 : Int) (r1 : Int) (r2 : Int) (w : World) (h : bits_Mul64.f a0 a1 = some (r1, r2)) :
  Calls Tryz.prog 113 #[.int .u64 a0, .int .u64 a1] w fun e w' => e = .returned (.tuple #[.int .u64 r1, .int .u64 r2]) ∧ Drawn0 w w' := by
 unfold bits_Mul64.f at h
 have H := h
 clear h
 simp only [Option.some.injEq, Prod.mk.injEq] at H
 obtain ⟨rfl, rfl⟩ := H
 go_enter Tryz.func113, Tryz.ntmps113
 go_wp2
 go_ret2
 exact ⟨rs, by repeat (first | exact Drawn0.refl _ | apply Drawn0.step)⟩

/-! ### bits_Mul: function 100 -/
def bits_Mul.f (a0 : Int) (a1 : Int) : Option (Int × Int) := (bits_Mul64.f a0 a1).bind fun bt209 => (some (bt209.1, bt209.2))
set_option maxHeartbeats 8000000 in
set_option maxRecDepth 100000 in
theorem bits_Mul.calls (a0 : Int) (a1 : Int) (r1 : Int) (r2 : Int) (w : World) (h : bits_Mul.f a0 a1 = some (r1, r2)) :
  Calls Tryz.prog 100 #[.int .u64 a0, .int .u64 a1] w fun e w' => e = .returned (.tuple #[.int .u64 r1, .int .u64 r2]) ∧ Drawn0 w w' := by
 unfold bits_Mul.f at h
 have H := h
 clear h
 replace H := Option.bind_eq_some_iff.mp H
 obtain ⟨⟨t209, t210⟩, A30, H⟩ := H
 (try dsimp only at H)
 have A3 := Aside0.mk A30
 clear A30
 simp only [Option.some.injEq, Prod.mk.injEq] at H
 obtain ⟨rfl, rfl⟩ := H
 go_enter Tryz.func100, Tryz.ntmps100
 go_wp2_with (first | ((with_reducible refine gate_callee (f := 113) rfl ?_); refine gl (some 25) Tryz.func113 #[.int .u64 a0, .int .u64 a1] ?_; (with_reducible refine (bits_Mul64.calls a0 a1 t209 t210 _ A3.out).mono ?_); rintro e w' ⟨rfl, ⟨nd, rfl⟩⟩; refine ⟨_, rfl, ?_⟩))
 go_ret2
 exact ⟨rs, by repeat (first | exact Drawn0.refl _ | apply Drawn0.step)⟩

/-! ### slices_Repeat_int_int: function 83 -/
theorem slices_Repeat_int_int_set {B t : Nat} (v : Value) : ∀ (m n r : Nat) (W : World), W.heap[B]? = some (.cells (List.replicate n v ++ List.replicate (m + r) (Value.int .i64 0)).toArray t (0, 0)) → (W.setCells B n (List.replicate m v)).heap[B]? = some (.cells (List.replicate (n + m) v ++ List.replicate r (Value.int .i64 0)).toArray t (0, 0))
  | 0, n, r, W, h => by simpa [World.setCells] using h
  | m + 1, n, r, W, h => by
    rw [List.replicate_succ, World.setCells]
    have h1 := blk_set h n v
    have e : (List.replicate n v ++ List.replicate (m + 1 + r) (Value.int .i64 0)).toArray.setIfInBounds n v = (List.replicate (n + 1) v ++ List.replicate (m + r) (Value.int .i64 0)).toArray := by
      rw [show m + 1 + r = (m + r) + 1 by omega, List.replicate_succ (n := m + r)]
      simp [List.replicate_succ', List.set_append]
    rw [e] at h1
    have := slices_Repeat_int_int_set v m (n + 1) r _ h1
    rwa [show n + (m + 1) = n + 1 + m by omega]
theorem slices_Repeat_int_int_below {b0 : Nat} {w0 : World} {B : Nat} (hB : b0 ≤ B) : ∀ (vs : List Value) (o : Nat) (W : World), Below b0 w0 W → Below b0 w0 (W.setCells B o vs)
  | [], _, _, h => h
  | v :: r, o, W, h => by
    rw [World.setCells]
    exact slices_Repeat_int_int_below hB r (o + 1) _ (h.setCell hB v)
theorem slices_Repeat_int_int_run {P : Program} {t e : TypeId} (hu : P.underlying t = some (.slice e)) (hs : (P.info? e).map (·.size) = some 1) (v : Int) (m n r d cd ls cs : Nat) (ty : TypeId) (ad : Addr) (W : World) (B e0 : Nat)
    (h : W.heap[B]? = some (.cells (List.replicate n (Value.int .i64 v) ++ List.replicate (m + r) (Value.int .i64 0)).toArray e0 (0, 0))) (hd : d = m + r) (hm : m = Nat.min ls d) (hsrc : ∀ j, j < m → W.cell? (ad.add j) = some (.int .i64 v)) :
    (Builtin.copy_ #[t, t] ty #[.slice (some ⟨B, n, none⟩) d cd, .slice (some ad) ls cs]).run P W = .ok (.int .i64 m) (W.setCells B n (List.replicate m (.int .i64 v))) := by
  have := run_copy_cells (P := P) W t t ty e B n d cd ad ls cs (List.replicate m (.int .i64 v)) hu hs (by simpa using hm)
    (fun j u hj => by
      have hj' := List.getElem?_eq_some_iff.1 hj
      obtain ⟨h1, h2⟩ := hj'
      simp at h1 h2
      rw [hsrc j h1, h2])
    (fun j hj => by
      simp at hj
      rw [blk_cell h]
      simp
      omega)
    (fun j hj => blk_frozen h _) (fun u hu => by rw [List.eq_of_mem_replicate hu]; rfl)
  simpa [goInt] using this
def slices_Repeat_int_int.f (l0 : List Int) (a1 : Int) : Option (List Int) := (bits_Mul.f (l0.length : Int) a1).bind fun q => if l0.length = 1 ∧ 1 ≤ a1 ∧ a1 < 1099511627776 ∧ q = (0, a1) then some (List.replicate a1.toNat (rd l0 0)) else none
theorem slices_Repeat_int_int_own (W : World) (base B c e : Nat) (v : Int) (hB : base ≤ B) (hc : c ≤ 9223372036854775807) (h : W.heap[B]? = some (.cells (List.replicate c (Value.int .i64 v)).toArray e (0, 0))) :
    Kd.R (Kd.int .i64) e W base (fun _ => True) (.slice (some ⟨B, 0, none⟩) c c) (List.replicate c v) := by
  refine ⟨fun _ _ => trivial, List.replicate c (.int .i64 v), ⟨by simp [Kd.int, Kd.scalar], .inr ⟨B, c, _, by simp, hB, h, ?_⟩⟩, by simp [Kd.int, Kd.scalar], ?_⟩
  · simp [maxLen, Kd.int, Kd.scalar]
    omega
  · intro j p hj
    have hj' := List.getElem?_eq_some_iff.1 hj
    obtain ⟨h1, h2⟩ := hj'
    simp at h1 h2
    simp [Kd.int, Kd.scalar, ← h2]
    rw [show min 1 (c - j) = 0 + 1 by omega]
    rfl
set_option maxHeartbeats 8000000 in
set_option maxRecDepth 100000 in
theorem slices_Repeat_int_int.calls (A0 : Option Addr) (c0 : Nat) (l0 : List Int) (a1 : Int) (r : List Int) (w : World) (hr0 : Kd.C (Kd.int .i64) w A0 l0.length l0) (hc0 : l0.length ≤ c0) (h : slices_Repeat_int_int.f l0 a1 = some r) :
  Calls Tryz.prog 83 #[.slice A0 l0.length c0, .int .i64 a1] w fun e w' => ∃ v0_ : Value, e = .returned (v0_) ∧ Kd.R (Kd.int .i64) 3 w' w.heap.size (fun _ => True) v0_ r ∧ Below w.heap.size w w' := by
 have HR0 := Aside0.mk hr0
 clear hr0
 have HB := Aside0.mk (Below.refl w.heap.size w)
 replace h := Option.bind_eq_some_iff.mp h
 obtain ⟨q, Aq0, h⟩ := h
 by_cases hcond : l0.length = 1 ∧ 1 ≤ a1 ∧ a1 < 1099511627776 ∧ q = (0, a1)
 ·rw [if_pos hcond] at h
  obtain ⟨hl, hlo, hhi, rfl⟩ := hcond
  obtain rfl := Option.some.inj h
  clear h
  rw [hl] at Aq0
  have Aq := Aside0.mk (show bits_Mul.f 1 a1 = some (0, a1) from Aq0)
  clear Aq0
  obtain ⟨ad, e1, hx0⟩ := Kd.at_int HR0.out 0 (by omega) (by omega)
  cases e1
  obtain ⟨v, hv⟩ : ∃ v, v = rd l0 0 := ⟨_, rfl⟩
  rw [← hv] at hx0 ⊢
  rw [hl] at hc0 ⊢
  obtain ⟨c, rfl⟩ : ∃ c : Nat, a1 = (c : Int) := ⟨a1.toNat, by omega⟩
  have mixed : Tryz.prog.follows Departure.mixedOrders = true := by kernel_rfl
  have hmk := print_make (P := Tryz.prog) 27 3 .i64 8 Tryz.underlying27 (by kernel_rfl) (by omega) c (by omega)
  have hz : (madeCells #[Value.int .i64 0] c) = (List.replicate 0 (Value.int .i64 v) ++ List.replicate (1 + (c - 1)) (Value.int .i64 0)).toArray := by
   apply Array.ext
   ·simp [madeCells]
    omega
   ·intro i h1 h2
    simp [madeCells, Nat.mod_one]
  have hlt := World.block_lt_of_cell? w _ hx0
  have HZ := Aside0.mk hz
  have HX := Aside0.mk hx0
  have HM := Aside0.mk hmk
  have HV := Aside0.mk hv
  have p1 : decide ((c : Int) < 0) = false := decide_eq_false (by omega)
  have p2 : decide ((9223372036854775807 : Int) < (c : Int)) = false := decide_eq_false (by omega)
  have p3 : IntKind.u64.wrap (c : Int) = c := by have e64 : IntKind.u64.bits = 64 := rfl; simp [IntKind.wrap, e64, IntKind.signed]; omega
  have HC := Aside0.mk hc0
  have HLO := Aside0.mk hlo
  have HHI := Aside0.mk hhi
  have HL := Aside0.mk hl
  clear hz hx0 hmk hv hlt hc0 hlo hhi hl
  go_enter Tryz.func83, Tryz.ntmps83
  have p4 : wrap64 (c : Int) = c := by have := HLO.out; have := HHI.out; unfold wrap64; omega
  have hblk : ∀ n1, ((w.drewN n1).alloc (.cells (madeCells #[Value.int .i64 0] c) 3)).heap[w.heap.size]? = some (.cells (List.replicate 0 (Value.int .i64 v) ++ List.replicate (1 + (c - 1)) (Value.int .i64 0)).toArray 3 (0, 0)) := fun n1 => (blk_new (w.drewN n1) _).trans (by rw [HZ.out])
  have hcp1 := fun n1 => slices_Repeat_int_int_run (P := Tryz.prog) Tryz.underlying27 (by kernel_rfl) v 1 0 (c - 1) c c 1 c0 3 ad ((w.drewN n1).alloc (.cells (madeCells #[Value.int .i64 0] c) 3)) w.heap.size 3 (hblk n1) (by have := HLO.out; omega) (by have := HLO.out; simp only [Nat.min_def]; split <;> omega) (fun j hj => by obtain rfl : j = 0 := (by omega); exact ((below_alloc (pw_below_drewN HB.out _) _).cell (World.block_lt_of_cell? w _ HX.out)).trans HX.out)
  have HB1 := fun n1 => Aside0.mk (slices_Repeat_int_int_below (b0 := w.heap.size) (w0 := w) (Nat.le_refl _) (List.replicate 1 (Value.int .i64 v)) 0 _ (below_alloc (pw_below_drewN HB.out n1) (.cells (madeCells #[Value.int .i64 0] c) 3)))
  have HS1 := fun n1 => Aside0.mk (slices_Repeat_int_int_set (Value.int .i64 v) 1 0 (c - 1) _ (hblk n1))
  have HCP := Aside0.mk hcp1
  have HBK := Aside0.mk hblk
  clear hcp1 hblk
  go_wp2_with (first | (go_at_call 100; (with_reducible refine (bits_Mul.calls 1 c 0 c _ Aq.out).mono ?_); rintro e w' ⟨rfl, ⟨n1, rfl⟩⟩) | simp only [p4, HM.out] | simp only [HCP.out])
  go_loopg [8] c (fun kq v8 w' => ∃ n : Nat, v8 = .int .i64 (n : Int) ∧ Aside0 (1 ≤ n ∧ n ≤ c) ∧ Aside0 (c - n ≤ kq) ∧ Aside0 (w'.heap[w.heap.size]? = some (.cells (List.replicate n (Value.int .i64 v) ++ List.replicate (c - n) (Value.int .i64 0)).toArray 3 (0, 0))) ∧ Aside0 (Below w.heap.size w w'))
  case atStart => exact ⟨1, rfl, ⟨by have := HLO.out; omega⟩, ⟨by omega⟩, ⟨(HS1 _).out⟩, HB1 _⟩
  case round =>
   clear HB HB1 HS1 HCP HBK
   obtain ⟨n, rfl, HN, HK1, HBK, HB⟩ := hrel
   by_cases c4 : (n : Int) < (c : Int)
   ·have c4b0 : decide ((n : Int) < (c : Int)) = true := decide_eq_true c4
    cases gk with
    | zero => exact absurd HK1.out (by omega)
    | succ k1 =>
     obtain ⟨m, hm⟩ : ∃ m, m = Nat.min n (c - n) := ⟨_, rfl⟩
     have hm1 : 1 ≤ m ∧ n + m ≤ c := by have := HN.out; simp only [hm, Nat.min_def]; split <;> omega
     have hcp2 := fun n1 => slices_Repeat_int_int_run (P := Tryz.prog) Tryz.underlying27 (by kernel_rfl) v m n (c - n - m) (c - n) (c - n) n c 3 ⟨w.heap.size, 0, none⟩ (World.drewN ‹World› n1) w.heap.size 3 (by have := HBK.out; rw [show m + (c - n - m) = c - n by omega]; exact this) (by omega) hm (fun j hj => by rw [add_plain]; have hjn : j < n := (by have : m ≤ n := hm ▸ Nat.min_le_left _ _; omega); refine (blk_cell (w := World.drewN ‹World› n1) HBK.out j).trans ?_; simp [List.getElem?_append, hjn])
     have q1 : ((n : Int)).toNat = n := by omega
     have q2 : (n : Int) ≤ (c : Int) := by omega
     have q3 : ¬ (c = n) := by omega
     have q4 : (0 : Int) ≤ (n : Int) := by omega
     have q5 : IntKind.i64.wrap ((n : Int) + (m : Int)) = ((n + m : Nat) : Int) := by have := HHI.out; have e64 : IntKind.i64.bits = 64 := rfl; simp [IntKind.wrap, e64, IntKind.signed]; omega
     have HB2 := fun n1 => Aside0.mk (slices_Repeat_int_int_below (b0 := w.heap.size) (w0 := w) (Nat.le_refl _) (List.replicate m (Value.int .i64 v)) n _ (pw_below_drewN HB.out n1))
     have HS2 := fun n1 => Aside0.mk (slices_Repeat_int_int_set (B := w.heap.size) (t := 3) (Value.int .i64 v) m n (c - n - m) (World.drewN ‹World› n1) (by have := HBK.out; rw [show m + (c - n - m) = c - n by omega]; exact this))
     have HCP2 := Aside0.mk hcp2
     have HM1 := Aside0.mk hm1
     clear hcp2 hm hm1 c4
     go_wp2
     go_region_law_o (refine step_copy_runI rfl _ _ 27 27 rfl _ _ (by simp [Act.eval, Act.put]) (by simp [Act.eval, Act.put]) (HCP2.out _) ?_)
     go_wp2
     go_roundg k1
     case measure => have := HK1.out; have := HM1.out; omega
     case rel => exact ⟨n + m, (by first | rfl | exact congrArg _ q5), ⟨by have := HN.out; have := HM1.out; omega⟩, ⟨by have := HK1.out; have := HM1.out; omega⟩, ⟨by have := (HS2 1).out; rw [show c - n - m = c - (n + m) by omega] at this; exact this⟩, HB2 1⟩
   ·have c4b0 : decide ((n : Int) < (c : Int)) = false := decide_eq_false c4
    obtain rfl : n = c := by have := HN.out; omega
    have HR := fun n1 => Aside0.mk (slices_Repeat_int_int_own (World.drewN ‹World› n1) w.heap.size w.heap.size n 3 v (Nat.le_refl _) (by have := HHI.out; omega) (by have := HBK.out; simpa using this))
    clear c4
    go_wp2
    go_ret
    exact ⟨_, rfl, (HR 0).out, HB.out⟩
 ·rw [if_neg hcond] at h
  exact absurd h (by simp)

end Go.Proofs.YtmhbcfdodcnjmaaGreatDoor.PFnSignalsReach
