-- Laid by xprint, a program of this session that runs over the kit's print.
import Derived.Test.YtlhhbkdeginhoaaPFnSignalsGox0
import Derived.Test.YtlhhbkdeginhoaaPFnSignalsGox1
namespace Go.Proofs.Ytlhhbkdeginhoaa.PFnSignalsGo
open Go.RowKit Go.Proofs.YtlhhbkdeginhoaaW.PrintWords Go.Proofs.YtlhhbkdeginhoaaW.PrintLast Go.Proofs.YtlhhbkdeginhoaaW.PrintMore Go.Proofs.Ytlhhbkdeginhoaa.Sq
attribute [local go_sem] max2_int min2_int max_two min_two max_three min_three max_four min_four   -- for this text's walks alone
set_option linter.unusedVariables false
set_option linter.unusedSimpArgs false

/-! ### spec_DrawSignalAt: function 5 -/
def spec_DrawSignalAt.f (l0 : List Int) : Option (Int × Int × Bool × Int × Int) := (spec_l1Cur_signal.f l0 0 0).bind fun bt160 => ((spec_l1Cur_among.f l0 bt160.2.2.2.2.1 bt160.2.2.2.2.2 (([0, 1, 2, 3, 5, 7, 20, 99, 100000, 100001, (-1)] : List Int))).bind fun bt170 => (some (bt160.1, bt160.2.1, bt160.2.2.1, bt160.2.2.2.1, bt170.1)))
def spec_DrawSignalAt.T3 : Bool × List (List Nat × List Nat) := (true, [([], []), ([], []), ([], []), ([], []), ([2, 3], [2, 3]), ([0, 4, 0], [0]), ([1, 5, 0, 1, 5], [1]), ([4, 6, 0, 1, 2, 3, 4, 5, 6], [4])])
def spec_DrawSignalAt.B3 : List Nat := [0, 0, 0, 0, 12, 29, 63, 127]
theorem spec_DrawSignalAt.tab3 : rtab .any (opsOf Try.f5 3) = spec_DrawSignalAt.T3 := by kernel_rfl
theorem spec_DrawSignalAt.bits3 : waitsOk spec_DrawSignalAt.T3.2 spec_DrawSignalAt.B3 = true := by kernel_rfl
set_option maxHeartbeats 8000000 in
set_option maxRecDepth 100000 in
theorem spec_DrawSignalAt.calls (A0 : Option Addr) (c0 : Nat) (l0 : List Int) (r1 : Int) (r2 : Int) (r3 : Bool) (r4 : Int) (r5 : Int) (w : World) (hr0 : Kd.C (Kd.int .u8) w A0 l0.length l0) (hc0 : l0.length ≤ c0) (h : spec_DrawSignalAt.f l0 = some (r1, r2, r3, r4, r5)) :
  Calls Try.prog 5 #[.slice A0 l0.length c0] w fun e w' => e = .returned (.tuple #[.int .i64 r1, .agg #[.int .i64 r2, .bool r3, .int .i64 r4], .int .i64 r5]) ∧ Below w.heap.size w w' := by
 have hu25 := Try.underlying25
 have hu48 := Try.underlying48
 have HR0 := Aside0.mk hr0
 have HC0 := Aside0.mk hc0
 clear hr0 hc0
 have HB := Aside0.mk (Below.refl w.heap.size w)
 unfold spec_DrawSignalAt.f at h
 have H := h
 clear h
 replace H := Option.bind_eq_some_iff.mp H
 obtain ⟨⟨t160, t161, t162, t163, t164, t165⟩, A20, H⟩ := H
 (try dsimp only at H)
 have A2 := Aside0.mk A20
 clear A20
 obtain ⟨y167, hy167⟩ : ∃ y_ : List Int, y_ = (([0, 1, 2, 3, 5, 7, 20, 99, 100000, 100001, (-1)] : List Int)) := ⟨_, rfl⟩
 replace H : ((spec_l1Cur_among.f l0 t164 t165 y167).bind fun bt170 => (some (t160, t161, t162, t163, bt170.1))) = some (r1, r2, r3, r4, r5) := by first | (rw [hy167]; with_reducible exact H) | (have H2_ := (Option.bind_some _ _).symm.trans H; rw [hy167]; with_reducible exact H2_) | (have H2_ := (Option.bind_some _ _).symm.trans H; with_reducible exact H2_) | with_reducible exact H | (rw [hy167]; exact H) | exact H
 have Ny167 := Aside0.mk hy167
 clear hy167
 replace H := Option.bind_eq_some_iff.mp H
 obtain ⟨⟨t170, t171, t172⟩, A30, H⟩ := H
 (try dsimp only at H)
 have A3 := Aside0.mk A30
 clear A30
 simp only [Option.some.injEq, Prod.mk.injEq] at H
 obtain ⟨rfl, rfl, rfl, rfl, rfl⟩ := H
 go_enter Try.func5, Try.ntmps5
 try go_wp2_with (first | ((with_reducible refine gate_dst (N := 3) rfl ?_); refine bx 3 25 #[.int .i64 0, .bool false, .int .i64 0] ?_; intro gb158 hg w4 hbox hb; have BK158 := hbox; have GW158 := gs hg; have GE158 := gs hg; replace HB := bs hb; clear hb hbox hg) | ((with_reducible refine gate_dst (N := 10) rfl ?_); refine box_event ?hg (N := 10) ?hd (cs := #[.slice A0 l0.length c0, .int .i64 0, .int .u64 0]) (t := 48) ?hr ?_; (case hd => rfl); (case hg => rfl); (case hr => first | (go_simp; done) | (go_simp; rfl)); intro gb159 hg w5 hbox hb; have GW159 := gs hg; have GE159 := gs hg; have NB158_159 := nl BK158 hg; have NB159_158 := ng BK158 hg; replace BK158 := nk BK158 hb; have HI159 := Aside0.mk ((show IsS48 w _ gb159 l0 0 0 from ⟨_, _, hbox, (by rw [hg]; exact (below_size bw)), HR0.out⟩)); replace HB := bs hb; clear hb hbox hg) | ((with_reducible refine gate_callee (f := 21) rfl ?_); refine gl (some 13) Try.func21 #[.pointer (some ⟨gb159, 0, none⟩)] ?_; (with_reducible refine (spec_l1Cur_signal.calls gb159 l0 0 0 t160 t161 t162 t163 t164 t165 w _ ?side1 ?side2 A2.out).mono ?_); (case side1 => repeat (first | (with_reducible first | exact HI159.out | apply IsS48.alloc | apply IsS48.drewN | apply IsS48.drew | apply IsS48.set_1 | apply IsS48.set_2 | refine IsS48.far ?_ NB159_158.out _) | exact HI159.out)); (case side2 => repeat (first | (with_reducible first | exact HB.out | apply below_alloc | apply pw_below_drewN | apply below_drew1 | refine below_set ?_ (IsS48.ge HI159.out) | refine below_set ?_ GE158.out) | exact HB.out)); rintro e w6 ⟨rfl, hi, hb, hk⟩; refine ⟨_, rfl, ?_⟩; replace BK158 := Aside0.mk (KeepBut.blk hk (g' := gb158) (o := .cells #[.int .i64 0, .bool false, .int .i64 0] 25 (0, 0)) (pk BK158) NB158_159.out (by simp)); replace HB := Aside0.mk (hb); replace HI159 := Aside0.mk (hi); (try clear hb)) | ((with_reducible refine gate_dst (N := 7) rfl ?_); refine bx 7 25 #[.int .i64 0, .bool false, .int .i64 0] ?_; intro gb166 hg w7 hbox hb; have BK166 := hbox; have GW166 := Aside0.mk ((by rw [hg]; exact (below_size (by repeat (first | (with_reducible first | exact HB.out | apply below_alloc | apply pw_below_drewN | apply below_drew1 | refine below_set ?_ (IsS48.ge HI159.out) | refine below_set ?_ GE158.out) | exact HB.out))) : w.heap.size ≤ gb166)); have GE166 := Aside0.mk ((by rw [hg]; exact (below_size (by repeat (first | (with_reducible first | exact HB.out | apply below_alloc | apply pw_below_drewN | apply below_drew1 | refine below_set ?_ (IsS48.ge HI159.out) | refine below_set ?_ GE158.out) | exact HB.out))) : w.heap.size ≤ gb166)); replace HB := Aside0.mk (below_step (by repeat (first | (with_reducible first | exact HB.out | apply below_alloc | apply pw_below_drewN | apply below_drew1 | refine below_set ?_ (IsS48.ge HI159.out) | refine below_set ?_ GE158.out) | exact HB.out)) hb); have NB158_166 := nl BK158 hg; have NB166_158 := ng BK158 hg; replace BK158 := nk BK158 hb; have NB159_166 := Aside0.mk ((by rw [hg]; exact Nat.ne_of_lt (IsS48.lt (show IsS48 w _ gb159 l0 t164 t165 from by repeat (first | (with_reducible first | exact HI159.out | apply IsS48.alloc | apply IsS48.drewN | apply IsS48.drew | apply IsS48.set_1 | apply IsS48.set_2 | refine IsS48.far ?_ NB159_158.out _) | exact HI159.out))) : gb159 ≠ gb166)); have NB166_159 := Aside0.mk ((by rw [hg]; exact Nat.ne_of_gt (IsS48.lt (show IsS48 w _ gb159 l0 t164 t165 from by repeat (first | (with_reducible first | exact HI159.out | apply IsS48.alloc | apply IsS48.drewN | apply IsS48.drew | apply IsS48.set_1 | apply IsS48.set_2 | refine IsS48.far ?_ NB159_158.out _) | exact HI159.out))) : gb166 ≠ gb159)); replace HI159 := Aside0.mk (IsS48.below (by repeat (first | (with_reducible first | exact HI159.out | apply IsS48.alloc | apply IsS48.drewN | apply IsS48.drew | apply IsS48.set_1 | apply IsS48.set_2 | refine IsS48.far ?_ NB159_158.out _) | exact HI159.out)) hb); clear hb hbox hg; have hnb8 := NB166_158.out; have hnc8 := NB158_166.out; have hnb9 := NB166_159.out; have hnc9 := NB159_166.out; have hcz10_0 := bc BK166 0 (.int .i64 0); have hcz10_1 := bc BK166 1 (.bool false); have hcz10_2 := bc BK166 2 (.int .i64 0); have hfz10_0 := blk_frozen BK166.out 0; have hfz10_1 := blk_frozen BK166.out 1; have hfz10_2 := blk_frozen BK166.out 2))
 have n0_ : Aside0 ((((w7.setCell ⟨gb166, 0, none⟩ (.int .i64 t161)).setCell ⟨gb166, 1, none⟩ (.bool t162)).setCell ⟨gb166, 2, none⟩ (.int .i64 t163)).heap[gb158]? = some (.cells #[.int .i64 0, .bool false, .int .i64 0] 25 (0, 0))) := ⟨by (with_reducible repeat (first | refine blk_drewN ?_ _ | refine blk_drew ?_ | refine blk_alloc ?_ _)); refine blk_far ?_ NB158_166.out _; (with_reducible repeat (first | refine blk_drewN ?_ _ | refine blk_drew ?_ | refine blk_alloc ?_ _)); refine blk_far ?_ NB158_166.out _; (with_reducible repeat (first | refine blk_drewN ?_ _ | refine blk_drew ?_ | refine blk_alloc ?_ _)); refine blk_far ?_ NB158_166.out _; (with_reducible repeat (first | refine blk_drewN ?_ _ | refine blk_drew ?_ | refine blk_alloc ?_ _)); exact BK158.out⟩
 have n1_ : Aside0 ((((w7.setCell ⟨gb166, 0, none⟩ (.int .i64 t161)).setCell ⟨gb166, 1, none⟩ (.bool t162)).setCell ⟨gb166, 2, none⟩ (.int .i64 t163)).heap[gb166]? = some (.cells #[.int .i64 t161, .bool t162, .int .i64 t163] 25 (0, 0))) := ⟨by (with_reducible repeat (first | refine blk_drewN ?_ _ | refine blk_drew ?_ | refine blk_alloc ?_ _)); refine blk_put (cs := #[.int .i64 t161, .bool t162, .int .i64 0]) ?_ 2 _ rfl; (with_reducible repeat (first | refine blk_drewN ?_ _ | refine blk_drew ?_ | refine blk_alloc ?_ _)); refine blk_put (cs := #[.int .i64 t161, .bool false, .int .i64 0]) ?_ 1 _ rfl; (with_reducible repeat (first | refine blk_drewN ?_ _ | refine blk_drew ?_ | refine blk_alloc ?_ _)); refine blk_put (cs := #[.int .i64 0, .bool false, .int .i64 0]) ?_ 0 _ rfl; (with_reducible repeat (first | refine blk_drewN ?_ _ | refine blk_drew ?_ | refine blk_alloc ?_ _)); exact BK166.out⟩
 have n2_ : Aside0 (IsS48 w (((w7.setCell ⟨gb166, 0, none⟩ (.int .i64 t161)).setCell ⟨gb166, 1, none⟩ (.bool t162)).setCell ⟨gb166, 2, none⟩ (.int .i64 t163)) gb159 l0 t164 t165) := ⟨by repeat (first | (with_reducible first | exact HI159.out | apply IsS48.alloc | apply IsS48.drewN | apply IsS48.drew | apply IsS48.set_1 | apply IsS48.set_2 | refine IsS48.far ?_ NB159_158.out _ | refine IsS48.far ?_ NB159_166.out _) | exact HI159.out)⟩
 have n3_ : Aside0 (Below w.heap.size w (((w7.setCell ⟨gb166, 0, none⟩ (.int .i64 t161)).setCell ⟨gb166, 1, none⟩ (.bool t162)).setCell ⟨gb166, 2, none⟩ (.int .i64 t163))) := ⟨by repeat (first | (with_reducible first | exact HB.out | apply below_alloc | apply pw_below_drewN | apply below_drew1 | refine below_set ?_ (IsS48.ge HI159.out) | refine below_set ?_ GE158.out | refine below_set ?_ GE166.out) | exact HB.out)⟩
 (try clear BK158)
 (try clear BK166)
 (try clear HI159)
 (try clear HB)
 generalize (((w7.setCell ⟨gb166, 0, none⟩ (.int .i64 t161)).setCell ⟨gb166, 1, none⟩ (.bool t162)).setCell ⟨gb166, 2, none⟩ (.int .i64 t163)) = w11 at n0_ n1_ n2_ n3_ ⊢
 have BK158 := n0_
 have BK166 := n1_
 have HI159 := n2_
 have HB := n3_
 clear n0_ n1_ n2_ n3_
 replace BK158 := Aside0.mk (blk_drew BK158.out)
 replace BK166 := Aside0.mk (blk_drew BK166.out)
 replace HI159 := Aside0.mk (IsS48.drew HI159.out)
 replace HB := Aside0.mk (below_drew1 HB.out)
 refine start_ (n := 8) (S := fun w' => w'.cell? ⟨gb166, 0, none⟩ = some (.int .i64 t161) ∧ w'.cell? ⟨gb166, 1, none⟩ = some (.bool t162) ∧ w'.cell? ⟨gb166, 2, none⟩ = some (.int .i64 t163)) (ds := []) #[false, false, false, false, false, false, false, false] (by kernel_rfl) rfl rfl ⟨ec BK166, ec BK166, ec BK166⟩ (fun hHeld => ?_); refine with_tabW spec_DrawSignalAt.tab3 spec_DrawSignalAt.bits3 (fun HT_ HW_ => ?_)
 generalize w11.drew = w12 at BK158 BK166 HI159 HB hHeld ⊢
 refine pu 0 (some 16) #[true, false, false, false, false, false, false, false] ?_
 refine pu 2 (some 18) #[true, false, true, false, false, false, false, false] ?_
 refine take_ (i := 1) (N := some 17) (v := ?_) (a' := ?_) #[true, true, true, false, false, false, false, false] rfl rfl (take_ofW HT_.out HW_.out (by kernel_rfl)) (fun _ _ _ h => h) (Or.inl ⟨by rfl, ?_⟩) hHeld ?_ ?_
 rotate_left
 ·rintro w' ⟨s0, s1, s2⟩
  go_simp
  with_reducible rfl
 rotate_left
 ·simp only [Act.put, List.setIfInBounds_toArray, List.set_cons_zero, List.set_cons_succ, i64_w, i32_w]
  rfl
 refine one_ (i := 3) (N := some 19) #[true, true, true, true, false, false, false, false] rfl rfl (one_of HT_.out (by kernel_rfl)) (by decide) (fun K hK => ?_)
 refine Kd.R_lit_step (Kd.int .i64) _ 3 ?hg (N := 19) ?hd (xs := ([0, 1, 2, 3, 5, 7, 20, 99, 100000, 100001, (-1)] : List Int)) (inner := [.int .i64 0, .int .i64 1, .int .i64 2, .int .i64 3, .int .i64 5, .int .i64 7, .int .i64 20, .int .i64 99, .int .i64 100000, .int .i64 100001, .int .i64 (-1)]) (ok := fun _ => True) (okp := fun _ => True) ?hr ?hp (fun _ hk => hk) trivial (Below.refl _ _) (Nat.le_refl _) (by simp) ?_; (case hd => rfl); (case hg => rfl); (case hr => first | (go_simp; done) | (go_simp; rfl)); (case hp => exact (Reps.one (show Kd.M (Kd.int .i64) _ _ _ 0 [.int .i64 0] from rfl) (Reps.one (show Kd.M (Kd.int .i64) _ _ _ 1 [.int .i64 1] from rfl) (Reps.one (show Kd.M (Kd.int .i64) _ _ _ 2 [.int .i64 2] from rfl) (Reps.one (show Kd.M (Kd.int .i64) _ _ _ 3 [.int .i64 3] from rfl) (Reps.one (show Kd.M (Kd.int .i64) _ _ _ 5 [.int .i64 5] from rfl) (Reps.one (show Kd.M (Kd.int .i64) _ _ _ 7 [.int .i64 7] from rfl) (Reps.one (show Kd.M (Kd.int .i64) _ _ _ 20 [.int .i64 20] from rfl) (Reps.one (show Kd.M (Kd.int .i64) _ _ _ 99 [.int .i64 99] from rfl) (Reps.one (show Kd.M (Kd.int .i64) _ _ _ 100000 [.int .i64 100000] from rfl) (Reps.one (show Kd.M (Kd.int .i64) _ _ _ 100001 [.int .i64 100001] from rfl) (Reps.one (show Kd.M (Kd.int .i64) _ _ _ (-1) [.int .i64 (-1)] from rfl) (Reps.none _ _)))))))))))))
 intro v168 w13 ho14 hb hg_ hnew_
 clear hg_ hnew_
 (first | rw [← Ny167.out] at ho14 | (simp only [Int.reduceToNat] at ho14; rw [← Ny167.out] at ho14))
 have HO169 := Aside0.mk (Kd.R_lower ho14 (below_size (by repeat (first | (with_reducible first | exact HB.out | apply below_alloc | apply pw_below_drewN | apply below_drew1 | refine below_set ?_ (IsS48.ge HI159.out) | refine below_set ?_ GE158.out | refine below_set ?_ GE166.out) | exact HB.out))))
 replace BK158 := nk BK158 hb
 replace BK166 := nk BK166 hb
 replace HB := Aside0.mk (below_step (by repeat (first | (with_reducible first | exact HB.out | apply below_alloc | apply pw_below_drewN | apply below_drew1 | refine below_set ?_ (IsS48.ge HI159.out) | refine below_set ?_ GE158.out | refine below_set ?_ GE166.out) | exact HB.out)) hb)
 replace HI159 := Aside0.mk (IsS48.below (by repeat (first | (with_reducible first | exact HI159.out | apply IsS48.alloc | apply IsS48.drewN | apply IsS48.drew | apply IsS48.set_1 | apply IsS48.set_2 | refine IsS48.far ?_ NB159_158.out _ | refine IsS48.far ?_ NB159_166.out _) | exact HI159.out)) hb)
 clear hb ho14
 obtain ⟨Ao15, co15, eo15⟩ := Kd.R_slice HO169.out
 (first | subst eo15 | (injection eo15 with f1_ f2_ f3_; have f4_ := f1_.symm; have f5_ := f3_.symm; clear f1_ f2_ f3_; subst f4_; subst f5_))
 refine hK.out _ _ ⟨ec BK166, ec BK166, ec BK166⟩ (fun hHeld => ?_)
 clear hK K
 refine nm (some 19) ?_
 refine one_ (i := 4) (N := some 20) #[true, true, true, true, true, false, false, false] rfl rfl (one_of HT_.out (by kernel_rfl)) (by decide) (fun K hK => ?_)
 refine goes_ Try.func22 (by kernel_rfl) rfl #[.pointer (some ⟨gb159, 0, none⟩), .slice Ao15 y167.length co15] (by rfl) rfl rfl (by (try simp only [List.map_toArray, List.map_cons, List.map_nil]); first | done | rfl | (simp only [List.length_drop, List.length_take]; rfl)) ?_
 with_reducible refine (spec_l1Cur_among.calls gb159 l0 t164 t165 _ _ y167 t170 t171 t172 w _ ?side1 ?side2 ?side3 ?side4 ?side5 A3.out).mono ?_
 (case side1 => repeat (first | (with_reducible first | exact HI159.out | apply IsS48.alloc | apply IsS48.drewN | apply IsS48.drew | apply IsS48.set_1 | apply IsS48.set_2 | refine IsS48.far ?_ NB159_158.out _ | refine IsS48.far ?_ NB159_166.out _) | exact HI159.out))
 (case side2 => repeat (first | (with_reducible first | exact HB.out | apply below_alloc | apply pw_below_drewN | apply below_drew1 | refine below_set ?_ (IsS48.ge HI159.out) | refine below_set ?_ GE158.out | refine below_set ?_ GE166.out) | exact HB.out))
 (case side3 => repeat (first | exact (Kd.R_reads' HO169.out).2.2 | (with_reducible refine Kd.C_alloc ?_ _) | (with_reducible refine Kd.C_drewN ?_ _) | (with_reducible refine Kd.C_drew ?_)))
 (case side4 => exact (Kd.R_reads' HO169.out).2.1)
 (case side5 => exact far_slice (IsS48.own_ne HI159.out HO169.out (by decide)))
 rintro e w16 ⟨rfl, hi, hb, hk⟩
 refine ⟨_, rfl, ?_⟩
 replace BK158 := Aside0.mk (KeepBut.blk hk (g' := gb158) (o := .cells #[.int .i64 0, .bool false, .int .i64 0] 25 (0, 0)) (pk BK158) NB158_159.out (by simp))
 replace BK166 := Aside0.mk (KeepBut.blk hk (g' := gb166) (o := .cells #[.int .i64 t161, .bool t162, .int .i64 t163] 25 (0, 0)) (pk BK166) NB166_159.out (by simp))
 replace HO169 := Aside0.mk (Kd.R_mono (Kd.R_keep (IsS48.apart (show IsS48 w _ gb159 l0 t164 t165 from by repeat (first | (with_reducible first | exact HI159.out | apply IsS48.alloc | apply IsS48.drewN | apply IsS48.drew | apply IsS48.set_1 | apply IsS48.set_2 | refine IsS48.far ?_ NB159_158.out _ | refine IsS48.far ?_ NB159_166.out _) | exact HI159.out)) (pr HO169) (by decide)) hk (fun _ h => h.2)) (fun _ h => h.1))
 replace HB := Aside0.mk (hb)
 replace HI159 := Aside0.mk (hi)
 (try clear hb)
 refine hK.out _ _ ⟨ec BK166, ec BK166, ec BK166⟩ (fun hHeld => ?_)
 clear hK K
 refine nm (some 20) ?_
 refine pu 5 (some 2) #[true, true, true, true, true, true, false, false] ?_
 refine one_ (i := 6) (N := none) #[true, true, true, true, true, true, true, false] rfl rfl (one_of HT_.out (by kernel_rfl)) (by decide) (fun K hK => ?_)
 have hs17 : w16.cell? ⟨gb158, 0, none⟩ = some (.int .i64 0) := ec BK158
 have hfs17 := blk_frozen BK158.out 0
 have hns17_1 := NB166_158.out
 have hms17_1 := NB158_166.out
 have hs18 : w16.cell? ⟨gb158, 1, none⟩ = some (.bool false) := ec BK158
 have hfs18 := blk_frozen BK158.out 1
 have hns18_1 := NB166_158.out
 have hms18_1 := NB158_166.out
 have hs19 : w16.cell? ⟨gb158, 2, none⟩ = some (.int .i64 0) := ec BK158
 have hfs19 := blk_frozen BK158.out 2
 have hns19_1 := NB166_158.out
 have hms19_1 := NB158_166.out
 refine skip_ (w1 := ?_) (by rfl) rfl ?_ ?_
 rotate_left
 ·go_simp
  rfl
 refine hK.out _ _ ⟨((cell_far (p := ⟨gb158, _, none⟩) NB166_158.out _).trans (((cell_far (p := ⟨gb158, _, none⟩) NB166_158.out _).trans (((cell_far (p := ⟨gb158, _, none⟩) NB166_158.out _).trans (hHeld.1)))))), ((cell_far (p := ⟨gb158, _, none⟩) NB166_158.out _).trans (((cell_far (p := ⟨gb158, _, none⟩) NB166_158.out _).trans (((cell_far (p := ⟨gb158, _, none⟩) NB166_158.out _).trans (hHeld.2.1)))))), ((cell_far (p := ⟨gb158, _, none⟩) NB166_158.out _).trans (((cell_far (p := ⟨gb158, _, none⟩) NB166_158.out _).trans (((cell_far (p := ⟨gb158, _, none⟩) NB166_158.out _).trans (hHeld.2.2))))))⟩ (fun hHeld => ?_)
 clear hK K
 refine pu 7 (some 4) #[true, true, true, true, true, true, true, true] ?_
 refine done_ (done_of HT_.out (by kernel_rfl)) ?_
 try go_wp2
 refine bodyPost_ret (results_list (rs := [.tmp 2, .cell 3 25, .tmp 4]) rfl (by simp) (.tmp (.cell gb158 25 #[.int .i64 t161, .bool t162, .int .i64 t163] (0, 0) _ rfl (by (with_reducible repeat (first | refine blk_drewN ?_ _ | refine blk_drew ?_ | refine blk_alloc ?_ _)); refine blk_put (cs := #[.int .i64 t161, .bool t162, .int .i64 0]) ?_ 2 _ rfl; (with_reducible repeat (first | refine blk_drewN ?_ _ | refine blk_drew ?_ | refine blk_alloc ?_ _)); refine blk_put (cs := #[.int .i64 t161, .bool false, .int .i64 0]) ?_ 1 _ rfl; (with_reducible repeat (first | refine blk_drewN ?_ _ | refine blk_drew ?_ | refine blk_alloc ?_ _)); refine blk_put (cs := #[.int .i64 0, .bool false, .int .i64 0]) ?_ 0 _ rfl; (with_reducible repeat (first | refine blk_drewN ?_ _ | refine blk_drew ?_ | refine blk_alloc ?_ _)); exact BK158.out) Try.underlying25 rfl (by kernel_rfl) (.tmp .nil)))) rfl ?_
 exact ⟨rs, by repeat (first | (with_reducible first | exact HB.out | apply below_alloc | apply pw_below_drewN | apply below_drew1 | refine below_set ?_ (IsS48.ge HI159.out) | refine below_set ?_ GE158.out | refine below_set ?_ GE166.out) | exact HB.out)⟩

/-! ### impl_in: function 33 -/
def impl_in.f (a0 : Int) (a1 : Int) (a2 : Int) : Option (Bool) := if a1 ≤ a0 then (some (decide (a0 ≤ a2))) else (some false)
set_option maxHeartbeats 8000000 in
set_option maxRecDepth 100000 in
theorem impl_in.calls (a0 : Int) (a1 : Int) (a2 : Int) (r : Bool) (w : World) (h : impl_in.f a0 a1 a2 = some r) :
  Calls Try.prog 33 #[.int .i64 a0, .int .i64 a1, .int .i64 a2] w fun e w' => e = .returned (.bool r) ∧ Drawn0 w w' := by
 unfold impl_in.f at h
 have H := h
 clear h
 by_cases c4 : a1 ≤ a0
 ·rw [if_pos c4] at H
  have c4b0 : decide (a1 ≤ a0) = true := decide_eq_true c4
  clear c4
  obtain rfl := Option.some.inj H
  go_enter Try.func33, Try.ntmps33
  go_wp2
  go_ret
  exact ⟨rs, by repeat (first | exact Drawn0.refl _ | apply Drawn0.step)⟩
 ·rw [if_neg c4] at H
  have c4b0 : decide (a1 ≤ a0) = false := decide_eq_false c4
  clear c4
  obtain rfl := Option.some.inj H
  go_enter Try.func33, Try.ntmps33
  go_wp2
  go_ret
  exact ⟨rs, by repeat (first | exact Drawn0.refl _ | apply Drawn0.step)⟩

/-! ### impl_isSignalRow: function 41 -/
def impl_isSignalRow.f (a0 : Int) : Option (Bool) := (impl_in.f a0 1 100).bind fun t173 => (some t173)
set_option maxHeartbeats 8000000 in
set_option maxRecDepth 100000 in
theorem impl_isSignalRow.calls (a0 : Int) (r : Bool) (w : World) (h : impl_isSignalRow.f a0 = some r) :
  Calls Try.prog 41 #[.int .i64 a0] w fun e w' => e = .returned (.bool r) ∧ Drawn0 w w' := by
 unfold impl_isSignalRow.f at h
 have H := h
 clear h
 replace H := Option.bind_eq_some_iff.mp H
 obtain ⟨t173, A20, H⟩ := H
 (try dsimp only at H)
 have A2 := Aside0.mk A20
 clear A20
 obtain rfl := Option.some.inj H
 go_enter Try.func41, Try.ntmps41
 go_wp2_with (first | ((with_reducible refine gate_callee (f := 33) rfl ?_); refine gl (some 4) Try.func33 #[.int .i64 a0, .int .i64 1, .int .i64 100] ?_; (with_reducible refine (impl_in.calls a0 1 100 t173 _ A2.out).mono ?_); rintro e w' ⟨rfl, ⟨nd, rfl⟩⟩; refine ⟨_, rfl, ?_⟩))
 go_ret
 exact ⟨rs, by repeat (first | exact Drawn0.refl _ | apply Drawn0.step)⟩

/-! ### impl_isSignal: function 23 -/
def impl_isSignal.f (a0 : Int) (a1_0 : Int) (a1_1 : Bool) (a1_2 : Int) : Option (Bool) := (impl_isSignalRow.f a0).bind fun t175 => (if t175 = true then ((impl_in.f a1_0 0 (wrap64 (a0 - 1))).bind fun t176 => (if t176 = true then ((impl_in.f a1_2 1 10).bind fun t177 => (some t177)) else (some false))) else (some false))
set_option maxHeartbeats 8000000 in
set_option maxRecDepth 100000 in
theorem impl_isSignal.calls (a0 : Int) (a1_0 : Int) (a1_1 : Bool) (a1_2 : Int) (r : Bool) (w : World) (h : impl_isSignal.f a0 a1_0 a1_1 a1_2 = some r) :
  Calls Try.prog 23 #[.int .i64 a0, .agg #[.int .i64 a1_0, .bool a1_1, .int .i64 a1_2]] w fun e w' => e = .returned (.bool r) ∧ Below w.heap.size w w' := by
 have hu25 := Try.underlying25
 have HB := Aside0.mk (Below.refl w.heap.size w)
 unfold impl_isSignal.f at h
 have H := h
 clear h
 replace H := Option.bind_eq_some_iff.mp H
 obtain ⟨t175, A30, H⟩ := H
 (try dsimp only at H)
 have A3 := Aside0.mk A30
 clear A30
 by_cases c4 : t175 = true
 ·subst c4
  rw [if_pos rfl] at H
  replace H := Option.bind_eq_some_iff.mp H
  obtain ⟨t176, A50, H⟩ := H
  (try dsimp only at H)
  have A5 := Aside0.mk A50
  clear A50
  by_cases c6 : t176 = true
  ·subst c6
   rw [if_pos rfl] at H
   replace H := Option.bind_eq_some_iff.mp H
   obtain ⟨t177, A70, H⟩ := H
   (try dsimp only at H)
   have A7 := Aside0.mk A70
   clear A70
   obtain rfl := Option.some.inj H
   go_enter Try.func23, Try.ntmps23
   go_wp2_with (first | ((with_reducible refine gate_dst (N := 3) rfl ?_); refine bx 3 25 #[.int .i64 a1_0, .bool a1_1, .int .i64 a1_2] ?_; intro gb174 hg w8 hbox hb; have BK174 := hbox; have GW174 := gs hg; have GE174 := gs hg; replace HB := bs hb; clear hb hbox hg) | ((with_reducible refine gate_callee (f := 41) rfl ?_); refine gl (some 6) Try.func41 #[.int .i64 a0] ?_; (with_reducible refine (impl_isSignalRow.calls a0 true _ A3.out).mono ?_); rintro e w' ⟨rfl, ⟨nd, rfl⟩⟩; refine ⟨_, rfl, ?_⟩; have hcz9_0 := bc BK174 0 (.int .i64 a1_0); have hcz9_1 := bc BK174 1 (.bool a1_1); have hcz9_2 := bc BK174 2 (.int .i64 a1_2); have hfz9_0 := blk_frozen BK174.out 0; have hfz9_1 := blk_frozen BK174.out 1; have hfz9_2 := blk_frozen BK174.out 2) | (go_at_call 33; (with_reducible refine (impl_in.calls a1_0 0 (wrap64 (a0 - 1)) true _ A5.out).mono ?_); rintro e w' ⟨rfl, ⟨nd, rfl⟩⟩) | (go_at_call 33; (with_reducible refine (impl_in.calls a1_2 1 10 t177 _ A7.out).mono ?_); rintro e w' ⟨rfl, ⟨nd, rfl⟩⟩))
   go_ret
   exact ⟨rs, bw⟩
  ·replace c6 := Bool.eq_false_iff.mpr c6
   subst c6
   rw [if_neg (show ¬ (false = true) by decide)] at H
   obtain rfl := Option.some.inj H
   go_enter Try.func23, Try.ntmps23
   go_wp2_with (first | ((with_reducible refine gate_dst (N := 3) rfl ?_); refine bx 3 25 #[.int .i64 a1_0, .bool a1_1, .int .i64 a1_2] ?_; intro gb174 hg w10 hbox hb; have BK174 := hbox; have GW174 := gs hg; have GE174 := gs hg; replace HB := bs hb; clear hb hbox hg) | ((with_reducible refine gate_callee (f := 41) rfl ?_); refine gl (some 6) Try.func41 #[.int .i64 a0] ?_; (with_reducible refine (impl_isSignalRow.calls a0 true _ A3.out).mono ?_); rintro e w' ⟨rfl, ⟨nd, rfl⟩⟩; refine ⟨_, rfl, ?_⟩; have hcz11_0 := bc BK174 0 (.int .i64 a1_0); have hcz11_1 := bc BK174 1 (.bool a1_1); have hcz11_2 := bc BK174 2 (.int .i64 a1_2); have hfz11_0 := blk_frozen BK174.out 0; have hfz11_1 := blk_frozen BK174.out 1; have hfz11_2 := blk_frozen BK174.out 2) | (go_at_call 33; (with_reducible refine (impl_in.calls a1_0 0 (wrap64 (a0 - 1)) false _ A5.out).mono ?_); rintro e w' ⟨rfl, ⟨nd, rfl⟩⟩))
   go_ret
   exact ⟨rs, bw⟩
 ·replace c4 := Bool.eq_false_iff.mpr c4
  subst c4
  rw [if_neg (show ¬ (false = true) by decide)] at H
  obtain rfl := Option.some.inj H
  go_enter Try.func23, Try.ntmps23
  go_wp2_with (first | ((with_reducible refine gate_dst (N := 3) rfl ?_); refine bx 3 25 #[.int .i64 a1_0, .bool a1_1, .int .i64 a1_2] ?_; intro gb174 hg w12 hbox hb; have BK174 := hbox; have GW174 := gs hg; have GE174 := gs hg; replace HB := bs hb; clear hb hbox hg) | ((with_reducible refine gate_callee (f := 41) rfl ?_); refine gl (some 6) Try.func41 #[.int .i64 a0] ?_; (with_reducible refine (impl_isSignalRow.calls a0 false _ A3.out).mono ?_); rintro e w' ⟨rfl, ⟨nd, rfl⟩⟩; refine ⟨_, rfl, ?_⟩))
  go_ret
  exact ⟨rs, bw⟩

/-! ### impl_isSignalTime: function 24 -/
def impl_isSignalTime.f (a0 : Int) : Option (Bool) := (impl_in.f a0 0 100000).bind fun t178 => (some t178)
set_option maxHeartbeats 8000000 in
set_option maxRecDepth 100000 in
theorem impl_isSignalTime.calls (a0 : Int) (r : Bool) (w : World) (h : impl_isSignalTime.f a0 = some r) :
  Calls Try.prog 24 #[.int .i64 a0] w fun e w' => e = .returned (.bool r) ∧ Drawn0 w w' := by
 unfold impl_isSignalTime.f at h
 have H := h
 clear h
 replace H := Option.bind_eq_some_iff.mp H
 obtain ⟨t178, A20, H⟩ := H
 (try dsimp only at H)
 have A2 := Aside0.mk A20
 clear A20
 obtain rfl := Option.some.inj H
 go_enter Try.func24, Try.ntmps24
 go_wp2_with (first | ((with_reducible refine gate_callee (f := 33) rfl ?_); refine gl (some 4) Try.func33 #[.int .i64 a0, .int .i64 0, .int .i64 100000] ?_; (with_reducible refine (impl_in.calls a0 0 100000 t178 _ A2.out).mono ?_); rintro e w' ⟨rfl, ⟨nd, rfl⟩⟩; refine ⟨_, rfl, ?_⟩))
 go_ret
 exact ⟨rs, by repeat (first | exact Drawn0.refl _ | apply Drawn0.step)⟩

/-! ### impl_around: function 29 -/
def impl_around.f (a0 : Int) : Option (Int) := some (mx (wrap64 (2 * (wrap64 (a0 - 1)))) 1)
set_option maxHeartbeats 8000000 in
set_option maxRecDepth 100000 in
theorem impl_around.calls (a0 : Int) (r : Int) (w : World) (h : impl_around.f a0 = some r) :
  Calls Try.prog 29 #[.int .i64 a0] w fun e w' => e = .returned (.int .i64 r) ∧ Below w.heap.size w w' := by
 have HB := Aside0.mk (Below.refl w.heap.size w)
 unfold impl_around.f at h
 have H := h
 clear h
 obtain ⟨ji2, hji2⟩ : ∃ j_ : Int, (mx (wrap64 (2 * (wrap64 (a0 - 1)))) 1) = j_ := ⟨_, rfl⟩
 replace H : (some ji2) = some r := by first | (rw [hji2] at H; exact H) | (simp only [hji2] at H ⊢; exact H)
 (try (have hji2l : 1 ≤ ji2 := by (rw [← hji2]; unfold mx; (repeat' split) <;> omega)))
 (try (have hji2m : 0 ≤ ji2 := by omega))
 have hji2_ : (if (wrap64 (2 * (wrap64 (a0 - 1)))) < 1 then 1 else (wrap64 (2 * (wrap64 (a0 - 1))))) = ji2 := hji2
 obtain rfl := Option.some.inj H
 go_enter Try.func29, Try.ntmps29
 go_wp2
 go_ret
 exact ⟨by first | rfl | (simp [errW_none, errW_some] <;> rfl) | (simp only [← hji2]; first | rfl | (simp [errW_none, errW_some] <;> rfl)) | (simp [*, errW_none, errW_some] <;> rfl), bw⟩

/-! ### impl_Signal_place: function 25 -/
def impl_Signal_place.f (a0_0 : Int) (a0_1 : Bool) (a0_2 : Int) (a1 : Int) (a2 : Int) : Option (Int) := if a1 = 1 then (some 0) else ((impl_around.f a1).bind fun t180 => (if a0_1 = true then (if a0_2 = 0 then (none) else (if t180 = 0 then (none) else (some (mn (Int.tmod (wrap64 ((wrap64 (t180 - a0_0)) + (wrap64 (Int.tdiv a2 a0_2)))) t180) (wrap64 (t180 - (Int.tmod (wrap64 ((wrap64 (t180 - a0_0)) + (wrap64 (Int.tdiv a2 a0_2)))) t180))))))) else (if a0_2 = 0 then (none) else (if t180 = 0 then (none) else (some (mn (Int.tmod (wrap64 (a0_0 + (wrap64 (Int.tdiv a2 a0_2)))) t180) (wrap64 (t180 - (Int.tmod (wrap64 (a0_0 + (wrap64 (Int.tdiv a2 a0_2)))) t180)))))))))
set_option maxHeartbeats 8000000 in
set_option maxRecDepth 100000 in
theorem impl_Signal_place.calls (a0_0 : Int) (a0_1 : Bool) (a0_2 : Int) (a1 : Int) (a2 : Int) (r : Int) (w : World) (h : impl_Signal_place.f a0_0 a0_1 a0_2 a1 a2 = some r) :
  Calls Try.prog 25 #[.agg #[.int .i64 a0_0, .bool a0_1, .int .i64 a0_2], .int .i64 a1, .int .i64 a2] w fun e w' => e = .returned (.int .i64 r) ∧ Below w.heap.size w w' := by
 have hu25 := Try.underlying25
 have HB := Aside0.mk (Below.refl w.heap.size w)
 unfold impl_Signal_place.f at h
 have H := h
 clear h
 by_cases c4 : a1 = 1
 ·rw [if_pos c4] at H
  have c4b0 : (a1 == 1) = true := beq_iff_eq.mpr c4
  have c4b1 : (a1 != 1) = false := bne_eq_false_iff_eq.mpr c4
  clear c4
  obtain rfl := Option.some.inj H
  go_enter Try.func25, Try.ntmps25
  go_wp2_with (first | ((with_reducible refine gate_dst (N := 3) rfl ?_); refine bx 3 25 #[.int .i64 a0_0, .bool a0_1, .int .i64 a0_2] ?_; intro gb179 hg w5 hbox hb; have BK179 := hbox; have GW179 := gs hg; have GE179 := gs hg; replace HB := bs hb; clear hb hbox hg))
  go_ret
  exact ⟨rs, bw⟩
 ·rw [if_neg c4] at H
  have c4b0 : (a1 == 1) = false := beq_eq_false_iff_ne.mpr c4
  have c4b1 : (a1 != 1) = true := bne_iff_ne.mpr c4
  replace H := Option.bind_eq_some_iff.mp H
  obtain ⟨t180, A60, H⟩ := H
  (try dsimp only at H)
  have A6 := Aside0.mk A60
  clear A60
  by_cases c7 : a0_1 = true
  ·subst c7
   rw [if_pos rfl] at H
   by_cases c8 : a0_2 = 0
   ·rw [if_pos c8] at H
    exact absurd H (by simp)
   ·rw [if_neg c8] at H
    have c8b0 : (a0_2 == 0) = false := beq_eq_false_iff_ne.mpr c8
    have c8b1 : (a0_2 != 0) = true := bne_iff_ne.mpr c8
    by_cases c9 : t180 = 0
    ·rw [if_pos c9] at H
     exact absurd H (by simp)
    ·rw [if_neg c9] at H
     have c9b0 : (t180 == 0) = false := beq_eq_false_iff_ne.mpr c9
     have c9b1 : (t180 != 0) = true := bne_iff_ne.mpr c9
     obtain ⟨ji10, hji10⟩ : ∃ j_ : Int, (mn (Int.tmod (wrap64 ((wrap64 (t180 - a0_0)) + (wrap64 (Int.tdiv a2 a0_2)))) t180) (wrap64 (t180 - (Int.tmod (wrap64 ((wrap64 (t180 - a0_0)) + (wrap64 (Int.tdiv a2 a0_2)))) t180)))) = j_ := ⟨_, rfl⟩
     replace H : (some ji10) = some r := by first | (rw [hji10] at H; exact H) | (simp only [hji10] at H ⊢; exact H)
     (try rw [hji10] at A6)
     have hji10_ : (if (wrap64 (t180 - (Int.tmod (wrap64 ((wrap64 (t180 - a0_0)) + (wrap64 (Int.tdiv a2 a0_2)))) t180))) < (Int.tmod (wrap64 ((wrap64 (t180 - a0_0)) + (wrap64 (Int.tdiv a2 a0_2)))) t180) then (wrap64 (t180 - (Int.tmod (wrap64 ((wrap64 (t180 - a0_0)) + (wrap64 (Int.tdiv a2 a0_2)))) t180))) else (Int.tmod (wrap64 ((wrap64 (t180 - a0_0)) + (wrap64 (Int.tdiv a2 a0_2)))) t180)) = ji10 := hji10
     obtain rfl := Option.some.inj H
     go_enter Try.func25, Try.ntmps25
     go_wp2_with (first | ((with_reducible refine gate_dst (N := 3) rfl ?_); refine bx 3 25 #[.int .i64 a0_0, .bool true, .int .i64 a0_2] ?_; intro gb179 hg w11 hbox hb; have BK179 := hbox; have GW179 := gs hg; have GE179 := gs hg; replace HB := bs hb; clear hb hbox hg) | ((with_reducible refine gate_callee (f := 29) rfl ?_); refine gl (some 12) Try.func29 #[.int .i64 a1] ?_; (with_reducible refine (impl_around.calls a1 t180 _ A6.out).mono ?_); rintro e w12 ⟨rfl, hb⟩; refine ⟨_, rfl, ?_⟩; replace BK179 := nk BK179 hb; replace HB := bs hb; (try clear hb); have hcz13_0 := bc BK179 0 (.int .i64 a0_0); have hcz13_1 := bc BK179 1 (.bool true); have hcz13_2 := bc BK179 2 (.int .i64 a0_2); have hfz13_0 := blk_frozen BK179.out 0; have hfz13_1 := blk_frozen BK179.out 1; have hfz13_2 := blk_frozen BK179.out 2))
     go_ret
     exact ⟨by first | rfl | (simp [errW_none, errW_some] <;> rfl) | (simp only [← hji10]; first | rfl | (simp [errW_none, errW_some] <;> rfl)) | (simp [*, errW_none, errW_some] <;> rfl), bw⟩
  ·replace c7 := Bool.eq_false_iff.mpr c7
   subst c7
   rw [if_neg (show ¬ (false = true) by decide)] at H
   by_cases c14 : a0_2 = 0
   ·rw [if_pos c14] at H
    exact absurd H (by simp)
   ·rw [if_neg c14] at H
    have c14b0 : (a0_2 == 0) = false := beq_eq_false_iff_ne.mpr c14
    have c14b1 : (a0_2 != 0) = true := bne_iff_ne.mpr c14
    by_cases c15 : t180 = 0
    ·rw [if_pos c15] at H
     exact absurd H (by simp)
    ·rw [if_neg c15] at H
     have c15b0 : (t180 == 0) = false := beq_eq_false_iff_ne.mpr c15
     have c15b1 : (t180 != 0) = true := bne_iff_ne.mpr c15
     obtain ⟨ji16, hji16⟩ : ∃ j_ : Int, (mn (Int.tmod (wrap64 (a0_0 + (wrap64 (Int.tdiv a2 a0_2)))) t180) (wrap64 (t180 - (Int.tmod (wrap64 (a0_0 + (wrap64 (Int.tdiv a2 a0_2)))) t180)))) = j_ := ⟨_, rfl⟩
     replace H : (some ji16) = some r := by first | (rw [hji16] at H; exact H) | (simp only [hji16] at H ⊢; exact H)
     (try rw [hji16] at A6)
     have hji16_ : (if (wrap64 (t180 - (Int.tmod (wrap64 (a0_0 + (wrap64 (Int.tdiv a2 a0_2)))) t180))) < (Int.tmod (wrap64 (a0_0 + (wrap64 (Int.tdiv a2 a0_2)))) t180) then (wrap64 (t180 - (Int.tmod (wrap64 (a0_0 + (wrap64 (Int.tdiv a2 a0_2)))) t180))) else (Int.tmod (wrap64 (a0_0 + (wrap64 (Int.tdiv a2 a0_2)))) t180)) = ji16 := hji16
     obtain rfl := Option.some.inj H
     go_enter Try.func25, Try.ntmps25
     go_wp2_with (first | ((with_reducible refine gate_dst (N := 3) rfl ?_); refine bx 3 25 #[.int .i64 a0_0, .bool false, .int .i64 a0_2] ?_; intro gb179 hg w17 hbox hb; have BK179 := hbox; have GW179 := gs hg; have GE179 := gs hg; replace HB := bs hb; clear hb hbox hg) | ((with_reducible refine gate_callee (f := 29) rfl ?_); refine gl (some 12) Try.func29 #[.int .i64 a1] ?_; (with_reducible refine (impl_around.calls a1 t180 _ A6.out).mono ?_); rintro e w18 ⟨rfl, hb⟩; refine ⟨_, rfl, ?_⟩; replace BK179 := nk BK179 hb; replace HB := bs hb; (try clear hb); have hcz19_0 := bc BK179 0 (.int .i64 a0_0); have hcz19_1 := bc BK179 1 (.bool false); have hcz19_2 := bc BK179 2 (.int .i64 a0_2); have hfz19_0 := blk_frozen BK179.out 0; have hfz19_1 := blk_frozen BK179.out 1; have hfz19_2 := blk_frozen BK179.out 2))
     go_ret
     exact ⟨by first | rfl | (simp [errW_none, errW_some] <;> rfl) | (simp only [← hji16]; first | rfl | (simp [errW_none, errW_some] <;> rfl)) | (simp [*, errW_none, errW_some] <;> rfl), bw⟩

/-! ### impl_SignalAt: function 6 -/
def impl_SignalAt.f (a0 : Int) (a1_0 : Int) (a1_1 : Bool) (a1_2 : Int) (a2 : Int) : Option (Int × Bool) := (impl_isSignal.f a0 a1_0 a1_1 a1_2).bind fun t182 => (if t182 = true then ((impl_isSignalTime.f a2).bind fun t183 => (if t183 = true then ((impl_Signal_place.f a1_0 a1_1 a1_2 a0 a2).bind fun t184 => (some (t184, true))) else (some (0, false)))) else (some (0, false)))
set_option maxHeartbeats 8000000 in
set_option maxRecDepth 100000 in
theorem impl_SignalAt.calls (a0 : Int) (a1_0 : Int) (a1_1 : Bool) (a1_2 : Int) (a2 : Int) (r1 : Int) (r2 : Bool) (w : World) (h : impl_SignalAt.f a0 a1_0 a1_1 a1_2 a2 = some (r1, r2)) :
  Calls Try.prog 6 #[.int .i64 a0, .agg #[.int .i64 a1_0, .bool a1_1, .int .i64 a1_2], .int .i64 a2] w fun e w' => e = .returned (.tuple #[.int .i64 r1, .bool r2]) ∧ Below w.heap.size w w' := by
 have hu25 := Try.underlying25
 have HB := Aside0.mk (Below.refl w.heap.size w)
 unfold impl_SignalAt.f at h
 have H := h
 clear h
 replace H := Option.bind_eq_some_iff.mp H
 obtain ⟨t182, A40, H⟩ := H
 (try dsimp only at H)
 have A4 := Aside0.mk A40
 clear A40
 by_cases c5 : t182 = true
 ·subst c5
  rw [if_pos rfl] at H
  replace H := Option.bind_eq_some_iff.mp H
  obtain ⟨t183, A60, H⟩ := H
  (try dsimp only at H)
  have A6 := Aside0.mk A60
  clear A60
  by_cases c7 : t183 = true
  ·subst c7
   rw [if_pos rfl] at H
   replace H := Option.bind_eq_some_iff.mp H
   obtain ⟨t184, A80, H⟩ := H
   (try dsimp only at H)
   have A8 := Aside0.mk A80
   clear A80
   simp only [Option.some.injEq, Prod.mk.injEq] at H
   obtain ⟨rfl, rfl⟩ := H
   go_enter Try.func6, Try.ntmps6
   go_wp2_with (first | ((with_reducible refine gate_dst (N := 4) rfl ?_); refine bx 4 25 #[.int .i64 a1_0, .bool a1_1, .int .i64 a1_2] ?_; intro gb181 hg w9 hbox hb; have BK181 := hbox; have GW181 := gs hg; have GE181 := gs hg; replace HB := bs hb; clear hb hbox hg; have hcz10_0 := bc BK181 0 (.int .i64 a1_0); have hcz10_1 := bc BK181 1 (.bool a1_1); have hcz10_2 := bc BK181 2 (.int .i64 a1_2); have hfz10_0 := blk_frozen BK181.out 0; have hfz10_1 := blk_frozen BK181.out 1; have hfz10_2 := blk_frozen BK181.out 2) | ((with_reducible refine gate_callee (f := 23) rfl ?_); refine gl (some 10) Try.func23 #[.int .i64 a0, .agg #[.int .i64 a1_0, .bool a1_1, .int .i64 a1_2]] ?_; (with_reducible refine (impl_isSignal.calls a0 a1_0 a1_1 a1_2 true _ A4.out).mono ?_); rintro e w11 ⟨rfl, hb⟩; refine ⟨_, rfl, ?_⟩; replace BK181 := nk BK181 hb; replace HB := bs hb; (try clear hb)) | (go_at_call 24; (with_reducible refine (impl_isSignalTime.calls a2 true _ A6.out).mono ?_); rintro e w' ⟨rfl, ⟨nd, rfl⟩⟩; have hcz12_0 := bc BK181 0 (.int .i64 a1_0); have hcz12_1 := bc BK181 1 (.bool a1_1); have hcz12_2 := bc BK181 2 (.int .i64 a1_2); have hfz12_0 := blk_frozen BK181.out 0; have hfz12_1 := blk_frozen BK181.out 1; have hfz12_2 := blk_frozen BK181.out 2) | ((with_reducible refine gate_callee (f := 25) rfl ?_); refine gl (some 20) Try.func25 #[.agg #[.int .i64 a1_0, .bool a1_1, .int .i64 a1_2], .int .i64 a0, .int .i64 a2] ?_; (with_reducible refine (impl_Signal_place.calls a1_0 a1_1 a1_2 a0 a2 t184 _ A8.out).mono ?_); rintro e w13 ⟨rfl, hb⟩; refine ⟨_, rfl, ?_⟩; replace BK181 := nk BK181 hb; replace HB := bs hb; (try clear hb)))
   go_ret2
   exact ⟨rs, bw⟩
  ·replace c7 := Bool.eq_false_iff.mpr c7
   subst c7
   rw [if_neg (show ¬ (false = true) by decide)] at H
   simp only [Option.some.injEq, Prod.mk.injEq] at H
   obtain ⟨rfl, rfl⟩ := H
   go_enter Try.func6, Try.ntmps6
   go_wp2_with (first | ((with_reducible refine gate_dst (N := 4) rfl ?_); refine bx 4 25 #[.int .i64 a1_0, .bool a1_1, .int .i64 a1_2] ?_; intro gb181 hg w14 hbox hb; have BK181 := hbox; have GW181 := gs hg; have GE181 := gs hg; replace HB := bs hb; clear hb hbox hg; have hcz15_0 := bc BK181 0 (.int .i64 a1_0); have hcz15_1 := bc BK181 1 (.bool a1_1); have hcz15_2 := bc BK181 2 (.int .i64 a1_2); have hfz15_0 := blk_frozen BK181.out 0; have hfz15_1 := blk_frozen BK181.out 1; have hfz15_2 := blk_frozen BK181.out 2) | ((with_reducible refine gate_callee (f := 23) rfl ?_); refine gl (some 10) Try.func23 #[.int .i64 a0, .agg #[.int .i64 a1_0, .bool a1_1, .int .i64 a1_2]] ?_; (with_reducible refine (impl_isSignal.calls a0 a1_0 a1_1 a1_2 true _ A4.out).mono ?_); rintro e w16 ⟨rfl, hb⟩; refine ⟨_, rfl, ?_⟩; replace BK181 := nk BK181 hb; replace HB := bs hb; (try clear hb)) | (go_at_call 24; (with_reducible refine (impl_isSignalTime.calls a2 false _ A6.out).mono ?_); rintro e w' ⟨rfl, ⟨nd, rfl⟩⟩))
   go_ret2
   exact ⟨rs, bw⟩
 ·replace c5 := Bool.eq_false_iff.mpr c5
  subst c5
  rw [if_neg (show ¬ (false = true) by decide)] at H
  simp only [Option.some.injEq, Prod.mk.injEq] at H
  obtain ⟨rfl, rfl⟩ := H
  go_enter Try.func6, Try.ntmps6
  go_wp2_with (first | ((with_reducible refine gate_dst (N := 4) rfl ?_); refine bx 4 25 #[.int .i64 a1_0, .bool a1_1, .int .i64 a1_2] ?_; intro gb181 hg w17 hbox hb; have BK181 := hbox; have GW181 := gs hg; have GE181 := gs hg; replace HB := bs hb; clear hb hbox hg; have hcz18_0 := bc BK181 0 (.int .i64 a1_0); have hcz18_1 := bc BK181 1 (.bool a1_1); have hcz18_2 := bc BK181 2 (.int .i64 a1_2); have hfz18_0 := blk_frozen BK181.out 0; have hfz18_1 := blk_frozen BK181.out 1; have hfz18_2 := blk_frozen BK181.out 2) | ((with_reducible refine gate_callee (f := 23) rfl ?_); refine gl (some 10) Try.func23 #[.int .i64 a0, .agg #[.int .i64 a1_0, .bool a1_1, .int .i64 a1_2]] ?_; (with_reducible refine (impl_isSignal.calls a0 a1_0 a1_1 a1_2 false _ A4.out).mono ?_); rintro e w19 ⟨rfl, hb⟩; refine ⟨_, rfl, ?_⟩; replace BK181 := nk BK181 hb; replace HB := bs hb; (try clear hb)))
  go_ret2
  exact ⟨rs, bw⟩

/-! ### spec_l1In: function 35 -/
def spec_l1In.f (a0 : Int) (a1 : Int) (a2 : Int) : Option (Bool) := if a0 ≥ a1 then (some (decide (a0 ≤ a2))) else (some false)
set_option maxHeartbeats 8000000 in
set_option maxRecDepth 100000 in
theorem spec_l1In.calls (a0 : Int) (a1 : Int) (a2 : Int) (r : Bool) (w : World) (h : spec_l1In.f a0 a1 a2 = some r) :
  Calls Try.prog 35 #[.int .i64 a0, .int .i64 a1, .int .i64 a2] w fun e w' => e = .returned (.bool r) ∧ Drawn0 w w' := by
 unfold spec_l1In.f at h
 have H := h
 clear h
 by_cases c4 : a0 ≥ a1
 ·rw [if_pos c4] at H
  have c4b0 : decide (a1 ≤ a0) = true := decide_eq_true c4
  clear c4
  obtain rfl := Option.some.inj H
  go_enter Try.func35, Try.ntmps35
  go_wp2
  go_ret
  exact ⟨rs, by repeat (first | exact Drawn0.refl _ | apply Drawn0.step)⟩
 ·rw [if_neg c4] at H
  have c4b0 : decide (a1 ≤ a0) = false := decide_eq_false c4
  clear c4
  obtain rfl := Option.some.inj H
  go_enter Try.func35, Try.ntmps35
  go_wp2
  go_ret
  exact ⟨rs, by repeat (first | exact Drawn0.refl _ | apply Drawn0.step)⟩

/-! ### spec_siSoldiers: function 42 -/
def spec_siSoldiers.f (a0 : Int) : Option (Bool) := (spec_l1In.f a0 1 100).bind fun t185 => (some t185)
set_option maxHeartbeats 8000000 in
set_option maxRecDepth 100000 in
theorem spec_siSoldiers.calls (a0 : Int) (r : Bool) (w : World) (h : spec_siSoldiers.f a0 = some r) :
  Calls Try.prog 42 #[.int .i64 a0] w fun e w' => e = .returned (.bool r) ∧ Drawn0 w w' := by
 unfold spec_siSoldiers.f at h
 have H := h
 clear h
 replace H := Option.bind_eq_some_iff.mp H
 obtain ⟨t185, A20, H⟩ := H
 (try dsimp only at H)
 have A2 := Aside0.mk A20
 clear A20
 obtain rfl := Option.some.inj H
 go_enter Try.func42, Try.ntmps42
 go_wp2_with (first | ((with_reducible refine gate_callee (f := 35) rfl ?_); refine gl (some 4) Try.func35 #[.int .i64 a0, .int .i64 1, .int .i64 100] ?_; (with_reducible refine (spec_l1In.calls a0 1 100 t185 _ A2.out).mono ?_); rintro e w' ⟨rfl, ⟨nd, rfl⟩⟩; refine ⟨_, rfl, ?_⟩))
 go_ret
 exact ⟨rs, by repeat (first | exact Drawn0.refl _ | apply Drawn0.step)⟩

/-! ### spec_siSignal: function 26 -/
def spec_siSignal.f (a0 : Int) (a1_0 : Int) (a1_1 : Bool) (a1_2 : Int) : Option (Bool) := (spec_siSoldiers.f a0).bind fun t187 => (if t187 = true then ((spec_l1In.f a1_0 0 (wrap64 (a0 - 1))).bind fun t188 => (if t188 = true then ((spec_l1In.f a1_2 1 10).bind fun t189 => (some t189)) else (some false))) else (some false))
set_option maxHeartbeats 8000000 in
set_option maxRecDepth 100000 in
theorem spec_siSignal.calls (a0 : Int) (a1_0 : Int) (a1_1 : Bool) (a1_2 : Int) (r : Bool) (w : World) (h : spec_siSignal.f a0 a1_0 a1_1 a1_2 = some r) :
  Calls Try.prog 26 #[.int .i64 a0, .agg #[.int .i64 a1_0, .bool a1_1, .int .i64 a1_2]] w fun e w' => e = .returned (.bool r) ∧ Below w.heap.size w w' := by
 have hu25 := Try.underlying25
 have HB := Aside0.mk (Below.refl w.heap.size w)
 unfold spec_siSignal.f at h
 have H := h
 clear h
 replace H := Option.bind_eq_some_iff.mp H
 obtain ⟨t187, A30, H⟩ := H
 (try dsimp only at H)
 have A3 := Aside0.mk A30
 clear A30
 by_cases c4 : t187 = true
 ·subst c4
  rw [if_pos rfl] at H
  replace H := Option.bind_eq_some_iff.mp H
  obtain ⟨t188, A50, H⟩ := H
  (try dsimp only at H)
  have A5 := Aside0.mk A50
  clear A50
  by_cases c6 : t188 = true
  ·subst c6
   rw [if_pos rfl] at H
   replace H := Option.bind_eq_some_iff.mp H
   obtain ⟨t189, A70, H⟩ := H
   (try dsimp only at H)
   have A7 := Aside0.mk A70
   clear A70
   obtain rfl := Option.some.inj H
   go_enter Try.func26, Try.ntmps26
   go_wp2_with (first | ((with_reducible refine gate_dst (N := 3) rfl ?_); refine bx 3 25 #[.int .i64 a1_0, .bool a1_1, .int .i64 a1_2] ?_; intro gb186 hg w8 hbox hb; have BK186 := hbox; have GW186 := gs hg; have GE186 := gs hg; replace HB := bs hb; clear hb hbox hg) | ((with_reducible refine gate_callee (f := 42) rfl ?_); refine gl (some 6) Try.func42 #[.int .i64 a0] ?_; (with_reducible refine (spec_siSoldiers.calls a0 true _ A3.out).mono ?_); rintro e w' ⟨rfl, ⟨nd, rfl⟩⟩; refine ⟨_, rfl, ?_⟩; have hcz9_0 := bc BK186 0 (.int .i64 a1_0); have hcz9_1 := bc BK186 1 (.bool a1_1); have hcz9_2 := bc BK186 2 (.int .i64 a1_2); have hfz9_0 := blk_frozen BK186.out 0; have hfz9_1 := blk_frozen BK186.out 1; have hfz9_2 := blk_frozen BK186.out 2) | (go_at_call 35; (with_reducible refine (spec_l1In.calls a1_0 0 (wrap64 (a0 - 1)) true _ A5.out).mono ?_); rintro e w' ⟨rfl, ⟨nd, rfl⟩⟩) | (go_at_call 35; (with_reducible refine (spec_l1In.calls a1_2 1 10 t189 _ A7.out).mono ?_); rintro e w' ⟨rfl, ⟨nd, rfl⟩⟩))
   go_ret
   exact ⟨rs, bw⟩
  ·replace c6 := Bool.eq_false_iff.mpr c6
   subst c6
   rw [if_neg (show ¬ (false = true) by decide)] at H
   obtain rfl := Option.some.inj H
   go_enter Try.func26, Try.ntmps26
   go_wp2_with (first | ((with_reducible refine gate_dst (N := 3) rfl ?_); refine bx 3 25 #[.int .i64 a1_0, .bool a1_1, .int .i64 a1_2] ?_; intro gb186 hg w10 hbox hb; have BK186 := hbox; have GW186 := gs hg; have GE186 := gs hg; replace HB := bs hb; clear hb hbox hg) | ((with_reducible refine gate_callee (f := 42) rfl ?_); refine gl (some 6) Try.func42 #[.int .i64 a0] ?_; (with_reducible refine (spec_siSoldiers.calls a0 true _ A3.out).mono ?_); rintro e w' ⟨rfl, ⟨nd, rfl⟩⟩; refine ⟨_, rfl, ?_⟩; have hcz11_0 := bc BK186 0 (.int .i64 a1_0); have hcz11_1 := bc BK186 1 (.bool a1_1); have hcz11_2 := bc BK186 2 (.int .i64 a1_2); have hfz11_0 := blk_frozen BK186.out 0; have hfz11_1 := blk_frozen BK186.out 1; have hfz11_2 := blk_frozen BK186.out 2) | (go_at_call 35; (with_reducible refine (spec_l1In.calls a1_0 0 (wrap64 (a0 - 1)) false _ A5.out).mono ?_); rintro e w' ⟨rfl, ⟨nd, rfl⟩⟩))
   go_ret
   exact ⟨rs, bw⟩
 ·replace c4 := Bool.eq_false_iff.mpr c4
  subst c4
  rw [if_neg (show ¬ (false = true) by decide)] at H
  obtain rfl := Option.some.inj H
  go_enter Try.func26, Try.ntmps26
  go_wp2_with (first | ((with_reducible refine gate_dst (N := 3) rfl ?_); refine bx 3 25 #[.int .i64 a1_0, .bool a1_1, .int .i64 a1_2] ?_; intro gb186 hg w12 hbox hb; have BK186 := hbox; have GW186 := gs hg; have GE186 := gs hg; replace HB := bs hb; clear hb hbox hg) | ((with_reducible refine gate_callee (f := 42) rfl ?_); refine gl (some 6) Try.func42 #[.int .i64 a0] ?_; (with_reducible refine (spec_siSoldiers.calls a0 false _ A3.out).mono ?_); rintro e w' ⟨rfl, ⟨nd, rfl⟩⟩; refine ⟨_, rfl, ?_⟩))
  go_ret
  exact ⟨rs, bw⟩

/-! ### spec_siTime: function 27 -/
def spec_siTime.f (a0 : Int) : Option (Bool) := (spec_l1In.f a0 0 100000).bind fun t190 => (some t190)
set_option maxHeartbeats 8000000 in
set_option maxRecDepth 100000 in
theorem spec_siTime.calls (a0 : Int) (r : Bool) (w : World) (h : spec_siTime.f a0 = some r) :
  Calls Try.prog 27 #[.int .i64 a0] w fun e w' => e = .returned (.bool r) ∧ Drawn0 w w' := by
 unfold spec_siTime.f at h
 have H := h
 clear h
 replace H := Option.bind_eq_some_iff.mp H
 obtain ⟨t190, A20, H⟩ := H
 (try dsimp only at H)
 have A2 := Aside0.mk A20
 clear A20
 obtain rfl := Option.some.inj H
 go_enter Try.func27, Try.ntmps27
 go_wp2_with (first | ((with_reducible refine gate_callee (f := 35) rfl ?_); refine gl (some 4) Try.func35 #[.int .i64 a0, .int .i64 0, .int .i64 100000] ?_; (with_reducible refine (spec_l1In.calls a0 0 100000 t190 _ A2.out).mono ?_); rintro e w' ⟨rfl, ⟨nd, rfl⟩⟩; refine ⟨_, rfl, ?_⟩))
 go_ret
 exact ⟨rs, by repeat (first | exact Drawn0.refl _ | apply Drawn0.step)⟩

/-! ### spec_siAt: function 28 -/
def spec_siAt.f (a0 : Int) (a1_0 : Int) (a1_1 : Bool) (a1_2 : Int) (a2 : Int) : Option (Int) := if a0 = 1 then (some 0) else (if a1_1 = true then (if a1_2 = 0 then (none) else (if (wrap64 (2 * (wrap64 (a0 - 1)))) = 0 then (none) else ((spec_l1Least.f (Int.tmod (wrap64 ((wrap64 ((wrap64 (2 * (wrap64 (a0 - 1)))) - a1_0)) + (wrap64 (Int.tdiv a2 a1_2)))) (wrap64 (2 * (wrap64 (a0 - 1))))) (wrap64 ((wrap64 (2 * (wrap64 (a0 - 1)))) - (Int.tmod (wrap64 ((wrap64 ((wrap64 (2 * (wrap64 (a0 - 1)))) - a1_0)) + (wrap64 (Int.tdiv a2 a1_2)))) (wrap64 (2 * (wrap64 (a0 - 1)))))))).bind fun t192 => (some t192)))) else (if a1_2 = 0 then (none) else (if (wrap64 (2 * (wrap64 (a0 - 1)))) = 0 then (none) else ((spec_l1Least.f (Int.tmod (wrap64 (a1_0 + (wrap64 (Int.tdiv a2 a1_2)))) (wrap64 (2 * (wrap64 (a0 - 1))))) (wrap64 ((wrap64 (2 * (wrap64 (a0 - 1)))) - (Int.tmod (wrap64 (a1_0 + (wrap64 (Int.tdiv a2 a1_2)))) (wrap64 (2 * (wrap64 (a0 - 1)))))))).bind fun t193 => (some t193)))))
set_option maxHeartbeats 8000000 in
set_option maxRecDepth 100000 in
theorem spec_siAt.calls (a0 : Int) (a1_0 : Int) (a1_1 : Bool) (a1_2 : Int) (a2 : Int) (r : Int) (w : World) (h : spec_siAt.f a0 a1_0 a1_1 a1_2 a2 = some r) :
  Calls Try.prog 28 #[.int .i64 a0, .agg #[.int .i64 a1_0, .bool a1_1, .int .i64 a1_2], .int .i64 a2] w fun e w' => e = .returned (.int .i64 r) ∧ Below w.heap.size w w' := by
 have hu25 := Try.underlying25
 have HB := Aside0.mk (Below.refl w.heap.size w)
 unfold spec_siAt.f at h
 have H := h
 clear h
 by_cases c4 : a0 = 1
 ·rw [if_pos c4] at H
  have c4b0 : (a0 == 1) = true := beq_iff_eq.mpr c4
  have c4b1 : (a0 != 1) = false := bne_eq_false_iff_eq.mpr c4
  clear c4
  obtain rfl := Option.some.inj H
  go_enter Try.func28, Try.ntmps28
  go_wp2_with (first | ((with_reducible refine gate_dst (N := 4) rfl ?_); refine bx 4 25 #[.int .i64 a1_0, .bool a1_1, .int .i64 a1_2] ?_; intro gb191 hg w5 hbox hb; have BK191 := hbox; have GW191 := gs hg; have GE191 := gs hg; replace HB := bs hb; clear hb hbox hg))
  go_ret
  exact ⟨rs, bw⟩
 ·rw [if_neg c4] at H
  have c4b0 : (a0 == 1) = false := beq_eq_false_iff_ne.mpr c4
  have c4b1 : (a0 != 1) = true := bne_iff_ne.mpr c4
  by_cases c6 : a1_1 = true
  ·subst c6
   rw [if_pos rfl] at H
   by_cases c7 : a1_2 = 0
   ·rw [if_pos c7] at H
    exact absurd H (by simp)
   ·rw [if_neg c7] at H
    have c7b0 : (a1_2 == 0) = false := beq_eq_false_iff_ne.mpr c7
    have c7b1 : (a1_2 != 0) = true := bne_iff_ne.mpr c7
    by_cases c8 : (wrap64 (2 * (wrap64 (a0 - 1)))) = 0
    ·rw [if_pos c8] at H
     exact absurd H (by simp)
    ·rw [if_neg c8] at H
     have c8b0 : ((wrap64 (2 * (wrap64 (a0 - 1)))) == 0) = false := beq_eq_false_iff_ne.mpr c8
     have c8b1 : ((wrap64 (2 * (wrap64 (a0 - 1)))) != 0) = true := bne_iff_ne.mpr c8
     replace H := Option.bind_eq_some_iff.mp H
     obtain ⟨t192, A90, H⟩ := H
     (try dsimp only at H)
     have A9 := Aside0.mk A90
     clear A90
     obtain rfl := Option.some.inj H
     go_enter Try.func28, Try.ntmps28
     go_wp2_with (first | ((with_reducible refine gate_dst (N := 4) rfl ?_); refine bx 4 25 #[.int .i64 a1_0, .bool true, .int .i64 a1_2] ?_; intro gb191 hg w10 hbox hb; have BK191 := hbox; have GW191 := gs hg; have GE191 := gs hg; replace HB := bs hb; clear hb hbox hg; have hcz11_0 := bc BK191 0 (.int .i64 a1_0); have hcz11_1 := bc BK191 1 (.bool true); have hcz11_2 := bc BK191 2 (.int .i64 a1_2); have hfz11_0 := blk_frozen BK191.out 0; have hfz11_1 := blk_frozen BK191.out 1; have hfz11_2 := blk_frozen BK191.out 2) | ((with_reducible refine gate_callee (f := 32) rfl ?_); refine gl (some 34) Try.func32 #[.int .i64 (Int.tmod (wrap64 ((wrap64 ((wrap64 (2 * (wrap64 (a0 - 1)))) - a1_0)) + (wrap64 (Int.tdiv a2 a1_2)))) (wrap64 (2 * (wrap64 (a0 - 1))))), .int .i64 (wrap64 ((wrap64 (2 * (wrap64 (a0 - 1)))) - (Int.tmod (wrap64 ((wrap64 ((wrap64 (2 * (wrap64 (a0 - 1)))) - a1_0)) + (wrap64 (Int.tdiv a2 a1_2)))) (wrap64 (2 * (wrap64 (a0 - 1)))))))] ?_; (with_reducible refine (spec_l1Least.calls (Int.tmod (wrap64 ((wrap64 ((wrap64 (2 * (wrap64 (a0 - 1)))) - a1_0)) + (wrap64 (Int.tdiv a2 a1_2)))) (wrap64 (2 * (wrap64 (a0 - 1))))) (wrap64 ((wrap64 (2 * (wrap64 (a0 - 1)))) - (Int.tmod (wrap64 ((wrap64 ((wrap64 (2 * (wrap64 (a0 - 1)))) - a1_0)) + (wrap64 (Int.tdiv a2 a1_2)))) (wrap64 (2 * (wrap64 (a0 - 1))))))) t192 _ A9.out).mono ?_); rintro e w' ⟨rfl, ⟨nd, rfl⟩⟩; refine ⟨_, rfl, ?_⟩))
     go_ret
     exact ⟨rs, bw⟩
  ·replace c6 := Bool.eq_false_iff.mpr c6
   subst c6
   rw [if_neg (show ¬ (false = true) by decide)] at H
   by_cases c12 : a1_2 = 0
   ·rw [if_pos c12] at H
    exact absurd H (by simp)
   ·rw [if_neg c12] at H
    have c12b0 : (a1_2 == 0) = false := beq_eq_false_iff_ne.mpr c12
    have c12b1 : (a1_2 != 0) = true := bne_iff_ne.mpr c12
    by_cases c13 : (wrap64 (2 * (wrap64 (a0 - 1)))) = 0
    ·rw [if_pos c13] at H
     exact absurd H (by simp)
    ·rw [if_neg c13] at H
     have c13b0 : ((wrap64 (2 * (wrap64 (a0 - 1)))) == 0) = false := beq_eq_false_iff_ne.mpr c13
     have c13b1 : ((wrap64 (2 * (wrap64 (a0 - 1)))) != 0) = true := bne_iff_ne.mpr c13
     replace H := Option.bind_eq_some_iff.mp H
     obtain ⟨t193, A140, H⟩ := H
     (try dsimp only at H)
     have A14 := Aside0.mk A140
     clear A140
     obtain rfl := Option.some.inj H
     go_enter Try.func28, Try.ntmps28
     go_wp2_with (first | ((with_reducible refine gate_dst (N := 4) rfl ?_); refine bx 4 25 #[.int .i64 a1_0, .bool false, .int .i64 a1_2] ?_; intro gb191 hg w15 hbox hb; have BK191 := hbox; have GW191 := gs hg; have GE191 := gs hg; replace HB := bs hb; clear hb hbox hg; have hcz16_0 := bc BK191 0 (.int .i64 a1_0); have hcz16_1 := bc BK191 1 (.bool false); have hcz16_2 := bc BK191 2 (.int .i64 a1_2); have hfz16_0 := blk_frozen BK191.out 0; have hfz16_1 := blk_frozen BK191.out 1; have hfz16_2 := blk_frozen BK191.out 2) | ((with_reducible refine gate_callee (f := 32) rfl ?_); refine gl (some 34) Try.func32 #[.int .i64 (Int.tmod (wrap64 (a1_0 + (wrap64 (Int.tdiv a2 a1_2)))) (wrap64 (2 * (wrap64 (a0 - 1))))), .int .i64 (wrap64 ((wrap64 (2 * (wrap64 (a0 - 1)))) - (Int.tmod (wrap64 (a1_0 + (wrap64 (Int.tdiv a2 a1_2)))) (wrap64 (2 * (wrap64 (a0 - 1)))))))] ?_; (with_reducible refine (spec_l1Least.calls (Int.tmod (wrap64 (a1_0 + (wrap64 (Int.tdiv a2 a1_2)))) (wrap64 (2 * (wrap64 (a0 - 1))))) (wrap64 ((wrap64 (2 * (wrap64 (a0 - 1)))) - (Int.tmod (wrap64 (a1_0 + (wrap64 (Int.tdiv a2 a1_2)))) (wrap64 (2 * (wrap64 (a0 - 1))))))) t193 _ A14.out).mono ?_); rintro e w' ⟨rfl, ⟨nd, rfl⟩⟩; refine ⟨_, rfl, ?_⟩))
     go_ret
     exact ⟨rs, bw⟩

/-! ### spec_SignalAt: function 7 -/
def spec_SignalAt.f (a0 : Int) (a1_0 : Int) (a1_1 : Bool) (a1_2 : Int) (a2 : Int) : Option (Int × Bool) := (spec_siSignal.f a0 a1_0 a1_1 a1_2).bind fun t195 => (if t195 = true then ((spec_siTime.f a2).bind fun t196 => (if t196 = true then ((spec_siAt.f a0 a1_0 a1_1 a1_2 a2).bind fun t197 => (some (t197, true))) else (some (0, false)))) else (some (0, false)))
set_option maxHeartbeats 8000000 in
set_option maxRecDepth 100000 in
theorem spec_SignalAt.calls (a0 : Int) (a1_0 : Int) (a1_1 : Bool) (a1_2 : Int) (a2 : Int) (r1 : Int) (r2 : Bool) (w : World) (h : spec_SignalAt.f a0 a1_0 a1_1 a1_2 a2 = some (r1, r2)) :
  Calls Try.prog 7 #[.int .i64 a0, .agg #[.int .i64 a1_0, .bool a1_1, .int .i64 a1_2], .int .i64 a2] w fun e w' => e = .returned (.tuple #[.int .i64 r1, .bool r2]) ∧ Below w.heap.size w w' := by
 have hu25 := Try.underlying25
 have HB := Aside0.mk (Below.refl w.heap.size w)
 unfold spec_SignalAt.f at h
 have H := h
 clear h
 replace H := Option.bind_eq_some_iff.mp H
 obtain ⟨t195, A40, H⟩ := H
 (try dsimp only at H)
 have A4 := Aside0.mk A40
 clear A40
 by_cases c5 : t195 = true
 ·subst c5
  rw [if_pos rfl] at H
  replace H := Option.bind_eq_some_iff.mp H
  obtain ⟨t196, A60, H⟩ := H
  (try dsimp only at H)
  have A6 := Aside0.mk A60
  clear A60
  by_cases c7 : t196 = true
  ·subst c7
   rw [if_pos rfl] at H
   replace H := Option.bind_eq_some_iff.mp H
   obtain ⟨t197, A80, H⟩ := H
   (try dsimp only at H)
   have A8 := Aside0.mk A80
   clear A80
   simp only [Option.some.injEq, Prod.mk.injEq] at H
   obtain ⟨rfl, rfl⟩ := H
   go_enter Try.func7, Try.ntmps7
   go_wp2_with (first | ((with_reducible refine gate_dst (N := 4) rfl ?_); refine bx 4 25 #[.int .i64 a1_0, .bool a1_1, .int .i64 a1_2] ?_; intro gb194 hg w9 hbox hb; have BK194 := hbox; have GW194 := gs hg; have GE194 := gs hg; replace HB := bs hb; clear hb hbox hg; have hcz10_0 := bc BK194 0 (.int .i64 a1_0); have hcz10_1 := bc BK194 1 (.bool a1_1); have hcz10_2 := bc BK194 2 (.int .i64 a1_2); have hfz10_0 := blk_frozen BK194.out 0; have hfz10_1 := blk_frozen BK194.out 1; have hfz10_2 := blk_frozen BK194.out 2) | ((with_reducible refine gate_callee (f := 26) rfl ?_); refine gl (some 10) Try.func26 #[.int .i64 a0, .agg #[.int .i64 a1_0, .bool a1_1, .int .i64 a1_2]] ?_; (with_reducible refine (spec_siSignal.calls a0 a1_0 a1_1 a1_2 true _ A4.out).mono ?_); rintro e w11 ⟨rfl, hb⟩; refine ⟨_, rfl, ?_⟩; replace BK194 := nk BK194 hb; replace HB := bs hb; (try clear hb)) | (go_at_call 27; (with_reducible refine (spec_siTime.calls a2 true _ A6.out).mono ?_); rintro e w' ⟨rfl, ⟨nd, rfl⟩⟩; have hcz12_0 := bc BK194 0 (.int .i64 a1_0); have hcz12_1 := bc BK194 1 (.bool a1_1); have hcz12_2 := bc BK194 2 (.int .i64 a1_2); have hfz12_0 := blk_frozen BK194.out 0; have hfz12_1 := blk_frozen BK194.out 1; have hfz12_2 := blk_frozen BK194.out 2) | ((with_reducible refine gate_callee (f := 28) rfl ?_); refine gl (some 20) Try.func28 #[.int .i64 a0, .agg #[.int .i64 a1_0, .bool a1_1, .int .i64 a1_2], .int .i64 a2] ?_; (with_reducible refine (spec_siAt.calls a0 a1_0 a1_1 a1_2 a2 t197 _ A8.out).mono ?_); rintro e w13 ⟨rfl, hb⟩; refine ⟨_, rfl, ?_⟩; replace BK194 := nk BK194 hb; replace HB := bs hb; (try clear hb)))
   go_ret2
   exact ⟨rs, bw⟩
  ·replace c7 := Bool.eq_false_iff.mpr c7
   subst c7
   rw [if_neg (show ¬ (false = true) by decide)] at H
   simp only [Option.some.injEq, Prod.mk.injEq] at H
   obtain ⟨rfl, rfl⟩ := H
   go_enter Try.func7, Try.ntmps7
   go_wp2_with (first | ((with_reducible refine gate_dst (N := 4) rfl ?_); refine bx 4 25 #[.int .i64 a1_0, .bool a1_1, .int .i64 a1_2] ?_; intro gb194 hg w14 hbox hb; have BK194 := hbox; have GW194 := gs hg; have GE194 := gs hg; replace HB := bs hb; clear hb hbox hg; have hcz15_0 := bc BK194 0 (.int .i64 a1_0); have hcz15_1 := bc BK194 1 (.bool a1_1); have hcz15_2 := bc BK194 2 (.int .i64 a1_2); have hfz15_0 := blk_frozen BK194.out 0; have hfz15_1 := blk_frozen BK194.out 1; have hfz15_2 := blk_frozen BK194.out 2) | ((with_reducible refine gate_callee (f := 26) rfl ?_); refine gl (some 10) Try.func26 #[.int .i64 a0, .agg #[.int .i64 a1_0, .bool a1_1, .int .i64 a1_2]] ?_; (with_reducible refine (spec_siSignal.calls a0 a1_0 a1_1 a1_2 true _ A4.out).mono ?_); rintro e w16 ⟨rfl, hb⟩; refine ⟨_, rfl, ?_⟩; replace BK194 := nk BK194 hb; replace HB := bs hb; (try clear hb)) | (go_at_call 27; (with_reducible refine (spec_siTime.calls a2 false _ A6.out).mono ?_); rintro e w' ⟨rfl, ⟨nd, rfl⟩⟩))
   go_ret2
   exact ⟨rs, bw⟩
 ·replace c5 := Bool.eq_false_iff.mpr c5
  subst c5
  rw [if_neg (show ¬ (false = true) by decide)] at H
  simp only [Option.some.injEq, Prod.mk.injEq] at H
  obtain ⟨rfl, rfl⟩ := H
  go_enter Try.func7, Try.ntmps7
  go_wp2_with (first | ((with_reducible refine gate_dst (N := 4) rfl ?_); refine bx 4 25 #[.int .i64 a1_0, .bool a1_1, .int .i64 a1_2] ?_; intro gb194 hg w17 hbox hb; have BK194 := hbox; have GW194 := gs hg; have GE194 := gs hg; replace HB := bs hb; clear hb hbox hg; have hcz18_0 := bc BK194 0 (.int .i64 a1_0); have hcz18_1 := bc BK194 1 (.bool a1_1); have hcz18_2 := bc BK194 2 (.int .i64 a1_2); have hfz18_0 := blk_frozen BK194.out 0; have hfz18_1 := blk_frozen BK194.out 1; have hfz18_2 := blk_frozen BK194.out 2) | ((with_reducible refine gate_callee (f := 26) rfl ?_); refine gl (some 10) Try.func26 #[.int .i64 a0, .agg #[.int .i64 a1_0, .bool a1_1, .int .i64 a1_2]] ?_; (with_reducible refine (spec_siSignal.calls a0 a1_0 a1_1 a1_2 false _ A4.out).mono ?_); rintro e w19 ⟨rfl, hb⟩; refine ⟨_, rfl, ?_⟩; replace BK194 := nk BK194 hb; replace HB := bs hb; (try clear hb)))
  go_ret2
  exact ⟨rs, bw⟩

/-! ### impl_SignalPeriod: function 8 -/
def impl_SignalPeriod.f (a0 : Int) (a1_0 : Int) (a1_1 : Bool) (a1_2 : Int) : Option (Int × Bool) := (impl_isSignal.f a0 a1_0 a1_1 a1_2).bind fun t199 => (if t199 = true then (if a0 = 1 then (some (1, true)) else ((impl_around.f a0).bind fun t200 => (some (wrap64 (t200 * a1_2), true)))) else (some (0, false)))
set_option maxHeartbeats 8000000 in
set_option maxRecDepth 100000 in
theorem impl_SignalPeriod.calls (a0 : Int) (a1_0 : Int) (a1_1 : Bool) (a1_2 : Int) (r1 : Int) (r2 : Bool) (w : World) (h : impl_SignalPeriod.f a0 a1_0 a1_1 a1_2 = some (r1, r2)) :
  Calls Try.prog 8 #[.int .i64 a0, .agg #[.int .i64 a1_0, .bool a1_1, .int .i64 a1_2]] w fun e w' => e = .returned (.tuple #[.int .i64 r1, .bool r2]) ∧ Below w.heap.size w w' := by
 have hu25 := Try.underlying25
 have HB := Aside0.mk (Below.refl w.heap.size w)
 unfold impl_SignalPeriod.f at h
 have H := h
 clear h
 replace H := Option.bind_eq_some_iff.mp H
 obtain ⟨t199, A30, H⟩ := H
 (try dsimp only at H)
 have A3 := Aside0.mk A30
 clear A30
 by_cases c4 : t199 = true
 ·subst c4
  rw [if_pos rfl] at H
  by_cases c5 : a0 = 1
  ·rw [if_pos c5] at H
   have c5b0 : (a0 == 1) = true := beq_iff_eq.mpr c5
   have c5b1 : (a0 != 1) = false := bne_eq_false_iff_eq.mpr c5
   clear c5
   simp only [Option.some.injEq, Prod.mk.injEq] at H
   obtain ⟨rfl, rfl⟩ := H
   go_enter Try.func8, Try.ntmps8
   go_wp2_with (first | ((with_reducible refine gate_dst (N := 3) rfl ?_); refine bx 3 25 #[.int .i64 a1_0, .bool a1_1, .int .i64 a1_2] ?_; intro gb198 hg w6 hbox hb; have BK198 := hbox; have GW198 := gs hg; have GE198 := gs hg; replace HB := bs hb; clear hb hbox hg; have hcz7_0 := bc BK198 0 (.int .i64 a1_0); have hcz7_1 := bc BK198 1 (.bool a1_1); have hcz7_2 := bc BK198 2 (.int .i64 a1_2); have hfz7_0 := blk_frozen BK198.out 0; have hfz7_1 := blk_frozen BK198.out 1; have hfz7_2 := blk_frozen BK198.out 2) | ((with_reducible refine gate_callee (f := 23) rfl ?_); refine gl (some 8) Try.func23 #[.int .i64 a0, .agg #[.int .i64 a1_0, .bool a1_1, .int .i64 a1_2]] ?_; (with_reducible refine (impl_isSignal.calls a0 a1_0 a1_1 a1_2 true _ A3.out).mono ?_); rintro e w8 ⟨rfl, hb⟩; refine ⟨_, rfl, ?_⟩; replace BK198 := nk BK198 hb; replace HB := bs hb; (try clear hb)))
   go_ret2
   exact ⟨rs, bw⟩
  ·rw [if_neg c5] at H
   have c5b0 : (a0 == 1) = false := beq_eq_false_iff_ne.mpr c5
   have c5b1 : (a0 != 1) = true := bne_iff_ne.mpr c5
   replace H := Option.bind_eq_some_iff.mp H
   obtain ⟨t200, A90, H⟩ := H
   (try dsimp only at H)
   have A9 := Aside0.mk A90
   clear A90
   simp only [Option.some.injEq, Prod.mk.injEq] at H
   obtain ⟨rfl, rfl⟩ := H
   go_enter Try.func8, Try.ntmps8
   try go_wp2_with (first | ((with_reducible refine gate_dst (N := 3) rfl ?_); refine bx 3 25 #[.int .i64 a1_0, .bool a1_1, .int .i64 a1_2] ?_; intro gb198 hg w10 hbox hb; have BK198 := hbox; have GW198 := gs hg; have GE198 := gs hg; replace HB := bs hb; clear hb hbox hg; have hcz11_0 := bc BK198 0 (.int .i64 a1_0); have hcz11_1 := bc BK198 1 (.bool a1_1); have hcz11_2 := bc BK198 2 (.int .i64 a1_2); have hfz11_0 := blk_frozen BK198.out 0; have hfz11_1 := blk_frozen BK198.out 1; have hfz11_2 := blk_frozen BK198.out 2) | ((with_reducible refine gate_callee (f := 23) rfl ?_); refine gl (some 8) Try.func23 #[.int .i64 a0, .agg #[.int .i64 a1_0, .bool a1_1, .int .i64 a1_2]] ?_; (with_reducible refine (impl_isSignal.calls a0 a1_0 a1_1 a1_2 true _ A3.out).mono ?_); rintro e w12 ⟨rfl, hb⟩; refine ⟨_, rfl, ?_⟩; replace BK198 := nk BK198 hb; replace HB := bs hb; (try clear hb)))
   replace BK198 := Aside0.mk (blk_drew BK198.out)
   replace HB := Aside0.mk (below_drew1 HB.out)
   refine start_ (n := 7) (S := fun w' => w'.cell? ⟨gb198, 0, none⟩ = some (.int .i64 a1_0) ∧ w'.cell? ⟨gb198, 1, none⟩ = some (.bool a1_1) ∧ w'.cell? ⟨gb198, 2, none⟩ = some (.int .i64 a1_2)) (ds := []) #[false, false, false, false, false, false, false] (by kernel_rfl) rfl rfl ⟨ec BK198, ec BK198, ec BK198⟩ (fun hHeld => ?_)
   generalize w12.drew = w13 at BK198 HB hHeld ⊢
   refine pure_ (i := 0) (N := some 12) (v := ?_) (a' := ?_) #[true, false, false, false, false, false, false] rfl rfl (by kernel_rfl) (fun _ _ _ h => h) (Or.inl ⟨by rfl, ?_⟩) ?_ ?_
   rotate_left
   ·intro w'
    go_simp
    with_reducible rfl
   rotate_left
   ·simp only [Act.put, List.setIfInBounds_toArray, List.set_cons_zero, List.set_cons_succ, i64_w, i32_w]
    rfl
   refine pure_ (i := 2) (N := some 14) (v := ?_) (a' := ?_) #[true, false, true, false, false, false, false] rfl rfl (by kernel_rfl) (fun _ _ _ h => h) (Or.inl ⟨by rfl, ?_⟩) ?_ ?_
   rotate_left
   ·intro w'
    go_simp
    with_reducible rfl
   rotate_left
   ·simp only [Act.put, List.setIfInBounds_toArray, List.set_cons_zero, List.set_cons_succ, i64_w, i32_w]
    rfl
   refine take_ (i := 3) (N := some 15) (v := ?_) (a' := ?_) #[true, false, true, true, false, false, false] rfl rfl (by kernel_rfl) (fun _ _ _ h => h) (Or.inl ⟨by rfl, ?_⟩) hHeld ?_ ?_
   rotate_left
   ·rintro w' ⟨s0, s1, s2⟩
    go_simp
    with_reducible rfl
   rotate_left
   ·simp only [Act.put, List.setIfInBounds_toArray, List.set_cons_zero, List.set_cons_succ, i64_w, i32_w]
    rfl
   refine one_ (i := 1) (N := some 13) #[true, true, true, true, false, false, false] rfl rfl (by kernel_rfl) (by decide) (fun K hK => ?_)
   refine goes_ Try.func29 (by kernel_rfl) rfl #[.int .i64 a0] (by rfl) rfl rfl (by (try simp only [List.map_toArray, List.map_cons, List.map_nil]); first | done | rfl | (simp only [List.length_drop, List.length_take]; rfl)) ?_
   with_reducible refine (impl_around.calls a0 t200 _ A9.out).mono ?_
   rintro e w14 ⟨rfl, hb⟩
   refine ⟨_, rfl, ?_⟩
   replace BK198 := nk BK198 hb
   replace HB := bs hb
   (try clear hb)
   refine hK.out _ _ ⟨ec BK198, ec BK198, ec BK198⟩ (fun hHeld => ?_)
   clear hK K
   refine nm (some 13) ?_
   refine pure_ (i := 4) (N := some 16) (v := ?_) (a' := ?_) #[true, true, true, true, true, false, false] rfl rfl (by kernel_rfl) (fun _ _ _ h => h) (Or.inl ⟨by rfl, ?_⟩) ?_ ?_
   rotate_left
   ·intro w'
    go_simp
    with_reducible rfl
   rotate_left
   ·simp only [Act.put, List.setIfInBounds_toArray, List.set_cons_zero, List.set_cons_succ, i64_w, i32_w]
    rfl
   refine pure_ (i := 5) (N := some 4) (v := ?_) (a' := ?_) #[true, true, true, true, true, true, false] rfl rfl (by kernel_rfl) (fun _ _ _ h => h) (Or.inl ⟨by rfl, ?_⟩) ?_ ?_
   rotate_left
   ·intro w'
    go_simp
    with_reducible rfl
   rotate_left
   ·simp only [Act.put, List.setIfInBounds_toArray, List.set_cons_zero, List.set_cons_succ, i64_w, i32_w]
    rfl
   refine pure_ (i := 6) (N := some 5) (v := ?_) (a' := ?_) #[true, true, true, true, true, true, true] rfl rfl (by kernel_rfl) (fun _ _ _ h => h) (Or.inl ⟨by rfl, ?_⟩) ?_ ?_
   rotate_left
   ·intro w'
    go_simp
    with_reducible rfl
   rotate_left
   ·simp only [Act.put, List.setIfInBounds_toArray, List.set_cons_zero, List.set_cons_succ, i64_w, i32_w]
    rfl
   refine done_ (by kernel_rfl) ?_
   try go_wp2
   go_ret2
   exact ⟨rs, bw⟩
 ·replace c4 := Bool.eq_false_iff.mpr c4
  subst c4
  rw [if_neg (show ¬ (false = true) by decide)] at H
  simp only [Option.some.injEq, Prod.mk.injEq] at H
  obtain ⟨rfl, rfl⟩ := H
  go_enter Try.func8, Try.ntmps8
  go_wp2_with (first | ((with_reducible refine gate_dst (N := 3) rfl ?_); refine bx 3 25 #[.int .i64 a1_0, .bool a1_1, .int .i64 a1_2] ?_; intro gb198 hg w15 hbox hb; have BK198 := hbox; have GW198 := gs hg; have GE198 := gs hg; replace HB := bs hb; clear hb hbox hg; have hcz16_0 := bc BK198 0 (.int .i64 a1_0); have hcz16_1 := bc BK198 1 (.bool a1_1); have hcz16_2 := bc BK198 2 (.int .i64 a1_2); have hfz16_0 := blk_frozen BK198.out 0; have hfz16_1 := blk_frozen BK198.out 1; have hfz16_2 := blk_frozen BK198.out 2) | ((with_reducible refine gate_callee (f := 23) rfl ?_); refine gl (some 8) Try.func23 #[.int .i64 a0, .agg #[.int .i64 a1_0, .bool a1_1, .int .i64 a1_2]] ?_; (with_reducible refine (impl_isSignal.calls a0 a1_0 a1_1 a1_2 false _ A3.out).mono ?_); rintro e w17 ⟨rfl, hb⟩; refine ⟨_, rfl, ?_⟩; replace BK198 := nk BK198 hb; replace HB := bs hb; (try clear hb)))
  go_ret2
  exact ⟨rs, bw⟩

end Go.Proofs.Ytlhhbkdeginhoaa.PFnSignalsGo
