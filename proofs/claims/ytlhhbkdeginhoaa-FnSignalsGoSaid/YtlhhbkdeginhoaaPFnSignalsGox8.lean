-- Laid by xprint, a program of this session that runs over the kit's print.
import Derived.Test.YtlhhbkdeginhoaaPFnSignalsGox0
import Derived.Test.YtlhhbkdeginhoaaPFnSignalsGox1
import Derived.Test.YtlhhbkdeginhoaaPFnSignalsGox2
import Derived.Test.YtlhhbkdeginhoaaPFnSignalsGox6
namespace Go.Proofs.Ytlhhbkdeginhoaa.PFnSignalsGo
open Go.RowKit Go.Proofs.YtlhhbkdeginhoaaW.PrintWords Go.Proofs.YtlhhbkdeginhoaaW.PrintLast Go.Proofs.YtlhhbkdeginhoaaW.PrintMore Go.Proofs.Ytlhhbkdeginhoaa.Sq
attribute [local go_sem] max2_int min2_int max_two min_two max_three min_three max_four min_four   -- for this text's walks alone
set_option linter.unusedVariables false
set_option linter.unusedSimpArgs false

/-! ### spec_DrawCountMeetings: function 16 -/
def spec_DrawCountMeetings.f (l0 : List Int) : Option (Int × Int × Bool × Int × Int × Bool × Int × Int) := (spec_l1Cur_signal.f l0 0 0).bind fun bt295 => ((spec_l1Cur_sureSignal.f l0 bt295.2.2.2.2.1 bt295.2.2.2.2.2 bt295.1).bind fun bt302 => ((spec_l1Cur_among.f l0 bt302.2.2.2.1 bt302.2.2.2.2 (([0, 1, 5, 20, 60, 1000, 1001, (-1)] : List Int))).bind fun bt310 => (some (bt295.1, bt295.2.1, bt295.2.2.1, bt295.2.2.2.1, bt302.1, bt302.2.1, bt302.2.2.1, bt310.1))))
def spec_DrawCountMeetings.T3 : Bool × List (List Nat × List Nat) := (true, [([], []), ([], []), ([], []), ([], []), ([2, 3], [2, 3]), ([], []), ([], []), ([5, 6, 4], [5, 6]), ([0, 7, 0], [0]), ([1, 8, 0, 1, 8], [1]), ([4, 9, 0, 1, 2, 3, 4, 8, 9], [4]), ([7, 10, 0, 1, 2, 3, 4, 5, 6, 7, 8, 9, 10], [7])])
def spec_DrawCountMeetings.B3 : List Nat := [0, 0, 0, 0, 12, 0, 0, 124, 253, 511, 1023, 2047]
theorem spec_DrawCountMeetings.tab3 : rtab .any (opsOf Try.f16 3) = spec_DrawCountMeetings.T3 := by kernel_rfl
theorem spec_DrawCountMeetings.bits3 : waitsOk spec_DrawCountMeetings.T3.2 spec_DrawCountMeetings.B3 = true := by kernel_rfl
set_option maxHeartbeats 8000000 in
set_option maxRecDepth 100000 in
theorem spec_DrawCountMeetings.calls (A0 : Option Addr) (c0 : Nat) (l0 : List Int) (r1 : Int) (r2 : Int) (r3 : Bool) (r4 : Int) (r5 : Int) (r6 : Bool) (r7 : Int) (r8 : Int) (w : World) (hr0 : Kd.C (Kd.int .u8) w A0 l0.length l0) (hc0 : l0.length ≤ c0) (h : spec_DrawCountMeetings.f l0 = some (r1, r2, r3, r4, r5, r6, r7, r8)) :
  Calls Try.prog 16 #[.slice A0 l0.length c0] w fun e w' => e = .returned (.tuple #[.int .i64 r1, .agg #[.int .i64 r2, .bool r3, .int .i64 r4], .agg #[.int .i64 r5, .bool r6, .int .i64 r7], .int .i64 r8]) ∧ Below w.heap.size w w' := by
 have hu25 := Try.underlying25
 have hu48 := Try.underlying48
 have HR0 := Aside0.mk hr0
 have HC0 := Aside0.mk hc0
 clear hr0 hc0
 have HB := Aside0.mk (Below.refl w.heap.size w)
 unfold spec_DrawCountMeetings.f at h
 have H := h
 clear h
 replace H := Option.bind_eq_some_iff.mp H
 obtain ⟨⟨t295, t296, t297, t298, t299, t300⟩, A20, H⟩ := H
 (try dsimp only at H)
 have A2 := Aside0.mk A20
 clear A20
 replace H := Option.bind_eq_some_iff.mp H
 obtain ⟨⟨t302, t303, t304, t305, t306⟩, A30, H⟩ := H
 (try dsimp only at H)
 have A3 := Aside0.mk A30
 clear A30
 obtain ⟨y307, hy307⟩ : ∃ y_ : List Int, y_ = (([0, 1, 5, 20, 60, 1000, 1001, (-1)] : List Int)) := ⟨_, rfl⟩
 replace H : ((spec_l1Cur_among.f l0 t305 t306 y307).bind fun bt310 => (some (t295, t296, t297, t298, t302, t303, t304, bt310.1))) = some (r1, r2, r3, r4, r5, r6, r7, r8) := by first | (rw [hy307]; with_reducible exact H) | (have H2_ := (Option.bind_some _ _).symm.trans H; rw [hy307]; with_reducible exact H2_) | (have H2_ := (Option.bind_some _ _).symm.trans H; with_reducible exact H2_) | with_reducible exact H | (rw [hy307]; exact H) | exact H
 have Ny307 := Aside0.mk hy307
 clear hy307
 replace H := Option.bind_eq_some_iff.mp H
 obtain ⟨⟨t310, t311, t312⟩, A40, H⟩ := H
 (try dsimp only at H)
 have A4 := Aside0.mk A40
 clear A40
 simp only [Option.some.injEq, Prod.mk.injEq] at H
 obtain ⟨rfl, rfl, rfl, rfl, rfl, rfl, rfl, rfl⟩ := H
 go_enter Try.func16, Try.ntmps16
 try go_wp2_with (first | ((with_reducible refine gate_dst (N := 3) rfl ?_); refine bx 3 25 #[.int .i64 0, .bool false, .int .i64 0] ?_; intro gb292 hg w5 hbox hb; have BK292 := hbox; have GW292 := gs hg; have GE292 := gs hg; replace HB := bs hb; clear hb hbox hg) | ((with_reducible refine gate_dst (N := 4) rfl ?_); refine bx 4 25 #[.int .i64 0, .bool false, .int .i64 0] ?_; intro gb293 hg w6 hbox hb; have BK293 := hbox; have GW293 := gs hg; have GE293 := gs hg; replace HB := bs hb; have NB292_293 := nl BK292 hg; have NB293_292 := ng BK292 hg; replace BK292 := nk BK292 hb; clear hb hbox hg) | ((with_reducible refine gate_dst (N := 11) rfl ?_); refine box_event ?hg (N := 11) ?hd (cs := #[.slice A0 l0.length c0, .int .i64 0, .int .u64 0]) (t := 48) ?hr ?_; (case hd => rfl); (case hg => rfl); (case hr => first | (go_simp; done) | (go_simp; rfl)); intro gb294 hg w7 hbox hb; have GW294 := gs hg; have GE294 := gs hg; have NB292_294 := nl BK292 hg; have NB294_292 := ng BK292 hg; replace BK292 := nk BK292 hb; have NB293_294 := nl BK293 hg; have NB294_293 := ng BK293 hg; replace BK293 := nk BK293 hb; have HI294 := Aside0.mk ((show IsS48 w _ gb294 l0 0 0 from ⟨_, _, hbox, (by rw [hg]; exact (below_size bw)), HR0.out⟩)); replace HB := bs hb; clear hb hbox hg) | ((with_reducible refine gate_callee (f := 21) rfl ?_); refine gl (some 14) Try.func21 #[.pointer (some ⟨gb294, 0, none⟩)] ?_; (with_reducible refine (spec_l1Cur_signal.calls gb294 l0 0 0 t295 t296 t297 t298 t299 t300 w _ ?side1 ?side2 A2.out).mono ?_); (case side1 => repeat (first | (with_reducible first | exact HI294.out | apply IsS48.alloc | apply IsS48.drewN | apply IsS48.drew | apply IsS48.set_1 | apply IsS48.set_2 | refine IsS48.far ?_ NB294_292.out _ | refine IsS48.far ?_ NB294_293.out _) | exact HI294.out)); (case side2 => repeat (first | (with_reducible first | exact HB.out | apply below_alloc | apply pw_below_drewN | apply below_drew1 | refine below_set ?_ (IsS48.ge HI294.out) | refine below_set ?_ GE292.out | refine below_set ?_ GE293.out) | exact HB.out)); rintro e w8 ⟨rfl, hi, hb, hk⟩; refine ⟨_, rfl, ?_⟩; replace BK292 := Aside0.mk (KeepBut.blk hk (g' := gb292) (o := .cells #[.int .i64 0, .bool false, .int .i64 0] 25 (0, 0)) (pk BK292) NB292_294.out (by simp)); replace BK293 := Aside0.mk (KeepBut.blk hk (g' := gb293) (o := .cells #[.int .i64 0, .bool false, .int .i64 0] 25 (0, 0)) (pk BK293) NB293_294.out (by simp)); replace HB := Aside0.mk (hb); replace HI294 := Aside0.mk (hi); (try clear hb)) | ((with_reducible refine gate_dst (N := 8) rfl ?_); refine bx 8 25 #[.int .i64 0, .bool false, .int .i64 0] ?_; intro gb301 hg w9 hbox hb; have BK301 := hbox; have GW301 := Aside0.mk ((by rw [hg]; exact (below_size (by repeat (first | (with_reducible first | exact HB.out | apply below_alloc | apply pw_below_drewN | apply below_drew1 | refine below_set ?_ (IsS48.ge HI294.out) | refine below_set ?_ GE292.out | refine below_set ?_ GE293.out) | exact HB.out))) : w.heap.size ≤ gb301)); have GE301 := Aside0.mk ((by rw [hg]; exact (below_size (by repeat (first | (with_reducible first | exact HB.out | apply below_alloc | apply pw_below_drewN | apply below_drew1 | refine below_set ?_ (IsS48.ge HI294.out) | refine below_set ?_ GE292.out | refine below_set ?_ GE293.out) | exact HB.out))) : w.heap.size ≤ gb301)); replace HB := Aside0.mk (below_step (by repeat (first | (with_reducible first | exact HB.out | apply below_alloc | apply pw_below_drewN | apply below_drew1 | refine below_set ?_ (IsS48.ge HI294.out) | refine below_set ?_ GE292.out | refine below_set ?_ GE293.out) | exact HB.out)) hb); have NB292_301 := nl BK292 hg; have NB301_292 := ng BK292 hg; replace BK292 := nk BK292 hb; have NB293_301 := nl BK293 hg; have NB301_293 := ng BK293 hg; replace BK293 := nk BK293 hb; have NB294_301 := Aside0.mk ((by rw [hg]; exact Nat.ne_of_lt (IsS48.lt (show IsS48 w _ gb294 l0 t299 t300 from by repeat (first | (with_reducible first | exact HI294.out | apply IsS48.alloc | apply IsS48.drewN | apply IsS48.drew | apply IsS48.set_1 | apply IsS48.set_2 | refine IsS48.far ?_ NB294_292.out _ | refine IsS48.far ?_ NB294_293.out _) | exact HI294.out))) : gb294 ≠ gb301)); have NB301_294 := Aside0.mk ((by rw [hg]; exact Nat.ne_of_gt (IsS48.lt (show IsS48 w _ gb294 l0 t299 t300 from by repeat (first | (with_reducible first | exact HI294.out | apply IsS48.alloc | apply IsS48.drewN | apply IsS48.drew | apply IsS48.set_1 | apply IsS48.set_2 | refine IsS48.far ?_ NB294_292.out _ | refine IsS48.far ?_ NB294_293.out _) | exact HI294.out))) : gb301 ≠ gb294)); replace HI294 := Aside0.mk (IsS48.below (by repeat (first | (with_reducible first | exact HI294.out | apply IsS48.alloc | apply IsS48.drewN | apply IsS48.drew | apply IsS48.set_1 | apply IsS48.set_2 | refine IsS48.far ?_ NB294_292.out _ | refine IsS48.far ?_ NB294_293.out _) | exact HI294.out)) hb); clear hb hbox hg; have hnb10 := NB301_292.out; have hnc10 := NB292_301.out; have hnb11 := NB301_293.out; have hnc11 := NB293_301.out; have hnb12 := NB301_294.out; have hnc12 := NB294_301.out; have hcz13_0 := bc BK301 0 (.int .i64 0); have hcz13_1 := bc BK301 1 (.bool false); have hcz13_2 := bc BK301 2 (.int .i64 0); have hfz13_0 := blk_frozen BK301.out 0; have hfz13_1 := blk_frozen BK301.out 1; have hfz13_2 := blk_frozen BK301.out 2))
 have n0_ : Aside0 ((((w9.setCell ⟨gb301, 0, none⟩ (.int .i64 t296)).setCell ⟨gb301, 1, none⟩ (.bool t297)).setCell ⟨gb301, 2, none⟩ (.int .i64 t298)).heap[gb292]? = some (.cells #[.int .i64 0, .bool false, .int .i64 0] 25 (0, 0))) := ⟨by (with_reducible repeat (first | refine blk_drewN ?_ _ | refine blk_drew ?_ | refine blk_alloc ?_ _)); refine blk_far ?_ NB292_301.out _; (with_reducible repeat (first | refine blk_drewN ?_ _ | refine blk_drew ?_ | refine blk_alloc ?_ _)); refine blk_far ?_ NB292_301.out _; (with_reducible repeat (first | refine blk_drewN ?_ _ | refine blk_drew ?_ | refine blk_alloc ?_ _)); refine blk_far ?_ NB292_301.out _; (with_reducible repeat (first | refine blk_drewN ?_ _ | refine blk_drew ?_ | refine blk_alloc ?_ _)); exact BK292.out⟩
 have n1_ : Aside0 ((((w9.setCell ⟨gb301, 0, none⟩ (.int .i64 t296)).setCell ⟨gb301, 1, none⟩ (.bool t297)).setCell ⟨gb301, 2, none⟩ (.int .i64 t298)).heap[gb293]? = some (.cells #[.int .i64 0, .bool false, .int .i64 0] 25 (0, 0))) := ⟨by (with_reducible repeat (first | refine blk_drewN ?_ _ | refine blk_drew ?_ | refine blk_alloc ?_ _)); refine blk_far ?_ NB293_301.out _; (with_reducible repeat (first | refine blk_drewN ?_ _ | refine blk_drew ?_ | refine blk_alloc ?_ _)); refine blk_far ?_ NB293_301.out _; (with_reducible repeat (first | refine blk_drewN ?_ _ | refine blk_drew ?_ | refine blk_alloc ?_ _)); refine blk_far ?_ NB293_301.out _; (with_reducible repeat (first | refine blk_drewN ?_ _ | refine blk_drew ?_ | refine blk_alloc ?_ _)); exact BK293.out⟩
 have n2_ : Aside0 ((((w9.setCell ⟨gb301, 0, none⟩ (.int .i64 t296)).setCell ⟨gb301, 1, none⟩ (.bool t297)).setCell ⟨gb301, 2, none⟩ (.int .i64 t298)).heap[gb301]? = some (.cells #[.int .i64 t296, .bool t297, .int .i64 t298] 25 (0, 0))) := ⟨by (with_reducible repeat (first | refine blk_drewN ?_ _ | refine blk_drew ?_ | refine blk_alloc ?_ _)); refine blk_put (cs := #[.int .i64 t296, .bool t297, .int .i64 0]) ?_ 2 _ rfl; (with_reducible repeat (first | refine blk_drewN ?_ _ | refine blk_drew ?_ | refine blk_alloc ?_ _)); refine blk_put (cs := #[.int .i64 t296, .bool false, .int .i64 0]) ?_ 1 _ rfl; (with_reducible repeat (first | refine blk_drewN ?_ _ | refine blk_drew ?_ | refine blk_alloc ?_ _)); refine blk_put (cs := #[.int .i64 0, .bool false, .int .i64 0]) ?_ 0 _ rfl; (with_reducible repeat (first | refine blk_drewN ?_ _ | refine blk_drew ?_ | refine blk_alloc ?_ _)); exact BK301.out⟩
 have n3_ : Aside0 (IsS48 w (((w9.setCell ⟨gb301, 0, none⟩ (.int .i64 t296)).setCell ⟨gb301, 1, none⟩ (.bool t297)).setCell ⟨gb301, 2, none⟩ (.int .i64 t298)) gb294 l0 t299 t300) := ⟨by repeat (first | (with_reducible first | exact HI294.out | apply IsS48.alloc | apply IsS48.drewN | apply IsS48.drew | apply IsS48.set_1 | apply IsS48.set_2 | refine IsS48.far ?_ NB294_292.out _ | refine IsS48.far ?_ NB294_293.out _ | refine IsS48.far ?_ NB294_301.out _) | exact HI294.out)⟩
 have n4_ : Aside0 (Below w.heap.size w (((w9.setCell ⟨gb301, 0, none⟩ (.int .i64 t296)).setCell ⟨gb301, 1, none⟩ (.bool t297)).setCell ⟨gb301, 2, none⟩ (.int .i64 t298))) := ⟨by repeat (first | (with_reducible first | exact HB.out | apply below_alloc | apply pw_below_drewN | apply below_drew1 | refine below_set ?_ (IsS48.ge HI294.out) | refine below_set ?_ GE292.out | refine below_set ?_ GE293.out | refine below_set ?_ GE301.out) | exact HB.out)⟩
 (try clear BK292)
 (try clear BK293)
 (try clear BK301)
 (try clear HI294)
 (try clear HB)
 generalize (((w9.setCell ⟨gb301, 0, none⟩ (.int .i64 t296)).setCell ⟨gb301, 1, none⟩ (.bool t297)).setCell ⟨gb301, 2, none⟩ (.int .i64 t298)) = w14 at n0_ n1_ n2_ n3_ n4_ ⊢
 have BK292 := n0_
 have BK293 := n1_
 have BK301 := n2_
 have HI294 := n3_
 have HB := n4_
 clear n0_ n1_ n2_ n3_ n4_
 replace BK292 := Aside0.mk (blk_drew BK292.out)
 replace BK293 := Aside0.mk (blk_drew BK293.out)
 replace BK301 := Aside0.mk (blk_drew BK301.out)
 replace HI294 := Aside0.mk (IsS48.drew HI294.out)
 replace HB := Aside0.mk (below_drew1 HB.out)
 refine start_ (n := 12) (S := fun w' => True) (ds := []) #[false, false, false, false, false, false, false, false, false, false, false, false] (by kernel_rfl) rfl rfl trivial (fun hHeld => ?_); refine with_tabW spec_DrawCountMeetings.tab3 spec_DrawCountMeetings.bits3 (fun HT_ HW_ => ?_)
 generalize w14.drew = w15 at BK292 BK293 BK301 HI294 HB hHeld ⊢
 refine pu 0 (some 17) #[true, false, false, false, false, false, false, false, false, false, false, false] ?_
 refine pu 2 (some 19) #[true, false, true, false, false, false, false, false, false, false, false, false] ?_
 refine pu 3 (some 20) #[true, false, true, true, false, false, false, false, false, false, false, false] ?_
 refine pu 5 (some 22) #[true, false, true, true, false, true, false, false, false, false, false, false] ?_
 refine inv_at [1, 4, 6, 7, 8, 9, 10, 11] (fun a0_ b a w' => ∃ (v308 : Value), a = putSel a0_ b [(1, 18, .agg #[.int .i64 t296, .bool t297, .int .i64 t298]), (4, 21, .agg #[.int .i64 t302, .bool t303, .int .i64 t304]), (6, 23, v308), (7, 24, .int .i64 t310), (8, 2, .int .i64 t295), (11, 5, .int .i64 t310)] ∧ (b 9 = false → w'.heap[gb292]? = some (.cells #[.int .i64 0, .bool false, .int .i64 0] 25 (0, 0))) ∧ (b 10 = false → w'.heap[gb293]? = some (.cells #[.int .i64 0, .bool false, .int .i64 0] 25 (0, 0))) ∧ (w'.heap[gb301]? = some (.cells #[.int .i64 t296, .bool t297, .int .i64 t298] 25 (0, 0))) ∧ (b 4 = false → IsS48 w w' gb294 l0 t299 t300) ∧ (Below w.heap.size w w') ∧ (b 4 = true → b 7 = false → IsS48 w w' gb294 l0 t305 t306) ∧ (b 6 = true → Kd.R (Kd.int .i64) 3 w' w.heap.size (fun _ => True) v308 y307) ∧ (b 7 = true → IsS48 w w' gb294 l0 t311 t312) ∧ (b 9 = true → w'.heap[gb292]? = some (.cells #[.int .i64 t296, .bool t297, .int .i64 t298] 25 (0, 0))) ∧ (b 10 = true → w'.heap[gb293]? = some (.cells #[.int .i64 t302, .bool t303, .int .i64 t304] 25 (0, 0)))) HT_.out HW_.out (by kernel_rfl) (by kernel_rfl) ?_ ?_ ?_
 ·exact ⟨.bool false, by simp only [putSel, Bool.false_eq_true, if_false], fun _ => BK292.out, fun _ => BK293.out, BK301.out, fun _ => HI294.out, HB.out, fun h_ => absurd h_ (by decide), fun h_ => absurd h_ (by decide), fun h_ => absurd h_ (by decide), fun h_ => absurd h_ (by decide), fun h_ => absurd h_ (by decide)⟩
 ·skip
  clear BK292 BK293 BK301 HB HI294
  refine steps_cons ?_ ?_
  ·rintro b a w' ⟨v308, ha, Q_BK292, Q_BK293, Q_BK301, Q_HI294, Q_HB, Q_HI294_e4, Q_HO309, Q_HI294_e7, Q_BK292_e9, Q_BK293_e10⟩ hb_ hon hoff
   refine ⟨_, rfl, fun K hK => ?_⟩
   have e8 : a.tmps[8]? = some (.pointer (some ⟨gb301, 0, none⟩)) := by rw [ha]; exact (putSel_off rfl).trans rfl
   replace ha := Aside0.mk ha
   have BK292 := Aside0.mk (Q_BK292 (hoff 9 (by kernel_rfl)))
   have BK293 := Aside0.mk (Q_BK293 (hoff 10 (by kernel_rfl)))
   have BK301 := Aside0.mk Q_BK301
   have HB := Aside0.mk Q_HB
   have hc0_ : w'.cell? ⟨gb301, 0, none⟩ = some (.int .i64 t296) := ec BK301
   have hc1_ : w'.cell? ⟨gb301, 1, none⟩ = some (.bool t297) := ec BK301
   have hc2_ : w'.cell? ⟨gb301, 2, none⟩ = some (.int .i64 t298) := ec BK301
   refine value_ (w1 := w') (v := .agg #[.int .i64 t296, .bool t297, .int .i64 t298]) (by rfl) rfl ?_ ?_
   ·go_simp
    (try simp only [i64_w])
    try rfl
   refine hK.out _ _ ⟨v308, (by rw [ha.out]; exact putSel_upk 0 hb_ rfl rfl rfl), Q_BK292, Q_BK293, Q_BK301, Q_HI294, Q_HB, Q_HI294_e4, Q_HO309, Q_HI294_e7, fun h0_ => absurd ((hoff 9 (by kernel_rfl)).symm.trans h0_) (by decide), fun h0_ => absurd ((hoff 10 (by kernel_rfl)).symm.trans h0_) (by decide)⟩
  refine steps_cons ?_ ?_
  ·rintro b a w' ⟨v308, ha, Q_BK292, Q_BK293, Q_BK301, Q_HI294, Q_HB, Q_HI294_e4, Q_HO309, Q_HI294_e7, Q_BK292_e9, Q_BK293_e10⟩ hb_ hon hoff
   refine ⟨_, rfl, fun K hK => ?_⟩
   have e19 : a.tmps[19]? = some (.pointer (some ⟨gb294, 0, none⟩)) := by rw [ha]; exact (putSel_off rfl).trans rfl
   have e20 : a.tmps[20]? = some (.int .i64 t295) := by rw [ha]; exact (putSel_off rfl).trans rfl
   replace ha := Aside0.mk ha
   have BK292 := Aside0.mk (Q_BK292 (hoff 9 (by kernel_rfl)))
   have BK293 := Aside0.mk (Q_BK293 (hoff 10 (by kernel_rfl)))
   have BK301 := Aside0.mk Q_BK301
   have HI294 := Aside0.mk (Q_HI294 hb_)
   have HB := Aside0.mk Q_HB
   refine goes_ Try.func37 (by kernel_rfl) rfl #[.pointer (some ⟨gb294, 0, none⟩), .int .i64 t295] (by rfl) rfl rfl (by first | (simp only [List.map_toArray, List.map_cons, List.map_nil, Act.eval, Array.getD_eq_getD_getElem?, Option.getD_some, e19, e20]; done) | (simp only [List.map_toArray, List.map_cons, List.map_nil, Act.eval, Array.getD_eq_getD_getElem?, Option.getD_some, e19, e20]; rfl)) ?_
   with_reducible refine (spec_l1Cur_sureSignal.calls gb294 l0 t299 t300 t295 t302 t303 t304 t305 t306 w _ ?side1 ?side2 A3.out).mono ?_
   (case side1 => repeat (first | (with_reducible first | exact HI294.out | apply IsS48.alloc | apply IsS48.drewN | apply IsS48.drew | apply IsS48.set_1 | apply IsS48.set_2 | refine IsS48.far ?_ NB294_292.out _ | refine IsS48.far ?_ NB294_293.out _ | refine IsS48.far ?_ NB294_301.out _) | exact HI294.out))
   (case side2 => repeat (first | (with_reducible first | exact HB.out | apply below_alloc | apply pw_below_drewN | apply below_drew1 | refine below_set ?_ (IsS48.ge HI294.out) | refine below_set ?_ GE292.out | refine below_set ?_ GE293.out | refine below_set ?_ GE301.out) | exact HB.out))
   rintro e w16 ⟨rfl, hi, hb, hk⟩
   refine ⟨_, rfl, ?_⟩
   have n0_ := Aside0.mk (KeepBut.blk hk (g' := gb292) (o := .cells #[.int .i64 0, .bool false, .int .i64 0] 25 (0, 0)) (pk BK292) NB292_294.out (by simp))
   have n1_ := Aside0.mk (KeepBut.blk hk (g' := gb293) (o := .cells #[.int .i64 0, .bool false, .int .i64 0] 25 (0, 0)) (pk BK293) NB293_294.out (by simp))
   have n2_ := Aside0.mk (KeepBut.blk hk (g' := gb301) (o := .cells #[.int .i64 t296, .bool t297, .int .i64 t298] 25 (0, 0)) (pk BK301) NB301_294.out (by simp))
   have n3_ := Aside0.mk (hb)
   have n4_ := Aside0.mk (hi)
   have z_HO309 := fun (h0_ : b 6 = true) => (show Kd.R (Kd.int .i64) 3 w16 w.heap.size (fun _ => True) v308 y307 from by first | exact (Kd.R_mono (Kd.R_keep (IsS48.apart (show IsS48 w _ gb294 l0 t299 t300 from by repeat (first | (with_reducible first | exact HI294.out | apply IsS48.alloc | apply IsS48.drewN | apply IsS48.drew | apply IsS48.set_1 | apply IsS48.set_2 | refine IsS48.far ?_ NB294_292.out _ | refine IsS48.far ?_ NB294_293.out _ | refine IsS48.far ?_ NB294_301.out _) | exact HI294.out)) (by (with_reducible repeat (first | apply Kd.R_alloc | apply Kd.R_drewN | apply Kd.R_drew)); exact (Q_HO309 h0_)) (by decide)) hk (fun _ h => h.2)) (fun _ h => h.1)) | exact Kd.R_mono (Kd.R_mono (Kd.R_keep (IsS48.apart (show IsS48 w _ gb294 l0 t299 t300 from by repeat (first | (with_reducible first | exact HI294.out | apply IsS48.alloc | apply IsS48.drewN | apply IsS48.drew | apply IsS48.set_1 | apply IsS48.set_2 | refine IsS48.far ?_ NB294_292.out _ | refine IsS48.far ?_ NB294_293.out _ | refine IsS48.far ?_ NB294_301.out _) | exact HI294.out)) (by (with_reducible repeat (first | apply Kd.R_alloc | apply Kd.R_drewN | apply Kd.R_drew)); exact (Q_HO309 h0_)) (by decide)) hk (fun _ h => h.2)) (fun _ h => h.1)) (fun _ h_ => by first | trivial | exact h_ | exact h_.1))
   clear BK292
   clear BK293
   clear BK301
   clear HB
   clear HI294
   have BK292 := n0_
   have BK293 := n1_
   have BK301 := n2_
   have HB := n3_
   have HI294 := n4_
   clear n0_ n1_ n2_ n3_ n4_
   (try clear hb)
   refine hK.out _ _ ⟨v308, (by rw [ha.out]; exact putSel_upk 1 hb_ rfl rfl rfl), fun _ => (pk BK292), fun _ => (pk BK293), (pk BK301), fun h0_ => absurd ((up_self b 4).symm.trans h0_) (by decide), (by repeat (first | (with_reducible first | exact HB.out | apply below_alloc | apply pw_below_drewN | apply below_drew1 | refine below_set ?_ (IsS48.ge HI294.out) | refine below_set ?_ GE292.out | refine below_set ?_ GE293.out | refine below_set ?_ GE301.out) | exact HB.out)), fun _ _ => (by repeat (first | (with_reducible first | exact HI294.out | apply IsS48.alloc | apply IsS48.drewN | apply IsS48.drew | apply IsS48.set_1 | apply IsS48.set_2 | refine IsS48.far ?_ NB294_292.out _ | refine IsS48.far ?_ NB294_293.out _ | refine IsS48.far ?_ NB294_301.out _) | exact HI294.out)), z_HO309, fun h0_ => absurd ((hoff 7 (by kernel_rfl)).symm.trans h0_) (by decide), fun h0_ => absurd ((hoff 9 (by kernel_rfl)).symm.trans h0_) (by decide), fun h0_ => absurd ((hoff 10 (by kernel_rfl)).symm.trans h0_) (by decide)⟩
  refine steps_cons ?_ ?_
  ·rintro b a w' ⟨v308, ha, Q_BK292, Q_BK293, Q_BK301, Q_HI294, Q_HB, Q_HI294_e4, Q_HO309, Q_HI294_e7, Q_BK292_e9, Q_BK293_e10⟩ hb_ hon hoff
   refine ⟨_, rfl, fun K hK => ?_⟩
   replace ha := Aside0.mk ha
   have BK292 := Aside0.mk (Q_BK292 (hoff 9 (by kernel_rfl)))
   have BK293 := Aside0.mk (Q_BK293 (hoff 10 (by kernel_rfl)))
   have BK301 := Aside0.mk Q_BK301
   have HB := Aside0.mk Q_HB
   refine Kd.R_lit_step (Kd.int .i64) _ 3 ?hg (N := 23) ?hd (xs := ([0, 1, 5, 20, 60, 1000, 1001, (-1)] : List Int)) (inner := [.int .i64 0, .int .i64 1, .int .i64 5, .int .i64 20, .int .i64 60, .int .i64 1000, .int .i64 1001, .int .i64 (-1)]) (ok := fun _ => True) (okp := fun _ => True) ?hr ?hp (fun _ hk => hk) trivial (Below.refl _ _) (Nat.le_refl _) (by simp) ?_; (case hd => rfl); (case hg => rfl); (case hr => first | (go_simp; done) | (go_simp; rfl)); (case hp => exact (Reps.one (show Kd.M (Kd.int .i64) _ _ _ 0 [.int .i64 0] from rfl) (Reps.one (show Kd.M (Kd.int .i64) _ _ _ 1 [.int .i64 1] from rfl) (Reps.one (show Kd.M (Kd.int .i64) _ _ _ 5 [.int .i64 5] from rfl) (Reps.one (show Kd.M (Kd.int .i64) _ _ _ 20 [.int .i64 20] from rfl) (Reps.one (show Kd.M (Kd.int .i64) _ _ _ 60 [.int .i64 60] from rfl) (Reps.one (show Kd.M (Kd.int .i64) _ _ _ 1000 [.int .i64 1000] from rfl) (Reps.one (show Kd.M (Kd.int .i64) _ _ _ 1001 [.int .i64 1001] from rfl) (Reps.one (show Kd.M (Kd.int .i64) _ _ _ (-1) [.int .i64 (-1)] from rfl) (Reps.none _ _))))))))))
   intro v308 w16 ho17 hb hg_ hnew_
   clear hg_ hnew_
   (first | rw [← Ny307.out] at ho17 | (simp only [Int.reduceToNat] at ho17; rw [← Ny307.out] at ho17))
   have n0_ := Aside0.mk (Kd.R_lower ho17 (below_size bw))
   have n1_ := nk BK292 hb
   have n2_ := nk BK293 hb
   have n4_ := nk BK301 hb
   have n5_ := bs hb
   have z_HI294 := fun (h0_ : b 4 = false) => (show IsS48 w w16 gb294 l0 t299 t300 from by first | exact (IsS48.below (by repeat (first | (with_reducible first | exact (Q_HI294 h0_) | apply IsS48.alloc | apply IsS48.drewN | apply IsS48.drew | apply IsS48.set_1 | apply IsS48.set_2 | refine IsS48.far ?_ NB294_292.out _ | refine IsS48.far ?_ NB294_293.out _ | refine IsS48.far ?_ NB294_301.out _) | exact (Q_HI294 h0_))) hb))
   have z_HI294_e4 := fun (h0_ : b 4 = true) (h1_ : b 7 = false) => (show IsS48 w w16 gb294 l0 t305 t306 from by first | exact (IsS48.below (by repeat (first | (with_reducible first | exact (Q_HI294_e4 h0_ h1_) | apply IsS48.alloc | apply IsS48.drewN | apply IsS48.drew | apply IsS48.set_1 | apply IsS48.set_2 | refine IsS48.far ?_ NB294_292.out _ | refine IsS48.far ?_ NB294_293.out _ | refine IsS48.far ?_ NB294_301.out _) | exact (Q_HI294_e4 h0_ h1_))) hb))
   clear BK292
   clear BK293
   clear BK301
   clear HB
   have HO309 := n0_
   have BK292 := n1_
   have BK293 := n2_
   have BK301 := n4_
   have HB := n5_
   clear n0_ n1_ n2_ n4_ n5_
   clear hb ho17
   refine hK.out _ _ ⟨v308, (by rw [ha.out]; exact putSel_upk 2 hb_ rfl rfl rfl), fun _ => (pk BK292), fun _ => (pk BK293), (pk BK301), z_HI294, bw, z_HI294_e4, fun _ => (pr HO309), fun h0_ => absurd ((hoff 7 (by kernel_rfl)).symm.trans h0_) (by decide), fun h0_ => absurd ((hoff 9 (by kernel_rfl)).symm.trans h0_) (by decide), fun h0_ => absurd ((hoff 10 (by kernel_rfl)).symm.trans h0_) (by decide)⟩
  refine steps_cons ?_ ?_
  ·rintro b a w' ⟨v308, ha, Q_BK292, Q_BK293, Q_BK301, Q_HI294, Q_HB, Q_HI294_e4, Q_HO309, Q_HI294_e7, Q_BK292_e9, Q_BK293_e10⟩ hb_ hon hoff
   refine ⟨_, rfl, fun K hK => ?_⟩
   have e22 : a.tmps[22]? = some (.pointer (some ⟨gb294, 0, none⟩)) := by rw [ha]; exact (putSel_off rfl).trans rfl
   have e23 : a.tmps[23]? = some (v308) := by rw [ha]; exact putSel_on (e := (6, 23, v308)) 2 rfl rfl (hon 6 (by kernel_rfl)) rfl
   replace ha := Aside0.mk ha
   have BK292 := Aside0.mk (Q_BK292 (hoff 9 (by kernel_rfl)))
   have BK293 := Aside0.mk (Q_BK293 (hoff 10 (by kernel_rfl)))
   have BK301 := Aside0.mk Q_BK301
   have HB := Aside0.mk Q_HB
   have HI294 := Aside0.mk (Q_HI294_e4 (hon 4 (by kernel_rfl)) hb_)
   have HO309 := Aside0.mk (Q_HO309 (hon 6 (by kernel_rfl)))
   obtain ⟨Ao20, co20, eo20⟩ := Kd.R_slice HO309.out
   (first | subst eo20 | (injection eo20 with f1_ f2_ f3_; have f4_ := f1_.symm; have f5_ := f3_.symm; clear f1_ f2_ f3_; subst f4_; subst f5_))
   refine goes_ Try.func22 (by kernel_rfl) rfl #[.pointer (some ⟨gb294, 0, none⟩), .slice Ao20 y307.length co20] (by rfl) rfl rfl (by first | (simp only [List.map_toArray, List.map_cons, List.map_nil, Act.eval, Array.getD_eq_getD_getElem?, Option.getD_some, e22, e23]; done) | (simp only [List.map_toArray, List.map_cons, List.map_nil, Act.eval, Array.getD_eq_getD_getElem?, Option.getD_some, e22, e23]; rfl)) ?_
   with_reducible refine (spec_l1Cur_among.calls gb294 l0 t305 t306 _ _ y307 t310 t311 t312 w _ ?side1 ?side2 ?side3 ?side4 ?side5 A4.out).mono ?_
   (case side1 => repeat (first | (with_reducible first | exact HI294.out | apply IsS48.alloc | apply IsS48.drewN | apply IsS48.drew | apply IsS48.set_1 | apply IsS48.set_2 | refine IsS48.far ?_ NB294_292.out _ | refine IsS48.far ?_ NB294_293.out _ | refine IsS48.far ?_ NB294_301.out _) | exact HI294.out))
   (case side2 => repeat (first | (with_reducible first | exact HB.out | apply below_alloc | apply pw_below_drewN | apply below_drew1 | refine below_set ?_ (IsS48.ge HI294.out) | refine below_set ?_ GE292.out | refine below_set ?_ GE293.out | refine below_set ?_ GE301.out) | exact HB.out))
   (case side3 => repeat (first | exact (Kd.R_reads' HO309.out).2.2 | (with_reducible refine Kd.C_alloc ?_ _) | (with_reducible refine Kd.C_drewN ?_ _) | (with_reducible refine Kd.C_drew ?_)))
   (case side4 => exact (Kd.R_reads' HO309.out).2.1)
   (case side5 => exact far_slice (IsS48.own_ne HI294.out HO309.out (by decide)))
   rintro e w21 ⟨rfl, hi, hb, hk⟩
   refine ⟨_, rfl, ?_⟩
   replace BK292 := Aside0.mk (KeepBut.blk hk (g' := gb292) (o := .cells #[.int .i64 0, .bool false, .int .i64 0] 25 (0, 0)) (pk BK292) NB292_294.out (by simp))
   replace BK293 := Aside0.mk (KeepBut.blk hk (g' := gb293) (o := .cells #[.int .i64 0, .bool false, .int .i64 0] 25 (0, 0)) (pk BK293) NB293_294.out (by simp))
   replace BK301 := Aside0.mk (KeepBut.blk hk (g' := gb301) (o := .cells #[.int .i64 t296, .bool t297, .int .i64 t298] 25 (0, 0)) (pk BK301) NB301_294.out (by simp))
   replace HO309 := Aside0.mk (Kd.R_mono (Kd.R_keep (IsS48.apart (show IsS48 w _ gb294 l0 t305 t306 from by repeat (first | (with_reducible first | exact HI294.out | apply IsS48.alloc | apply IsS48.drewN | apply IsS48.drew | apply IsS48.set_1 | apply IsS48.set_2 | refine IsS48.far ?_ NB294_292.out _ | refine IsS48.far ?_ NB294_293.out _ | refine IsS48.far ?_ NB294_301.out _) | exact HI294.out)) (pr HO309) (by decide)) hk (fun _ h => h.2)) (fun _ h => h.1))
   replace HB := Aside0.mk (hb)
   replace HI294 := Aside0.mk (hi)
   (try clear hb)
   refine hK.out _ _ ⟨.slice Ao20 y307.length co20, (by rw [ha.out]; exact putSel_upk 3 hb_ rfl rfl rfl), fun _ => (pk BK292), fun _ => (pk BK293), (pk BK301), fun h0_ => absurd ((hon 4 (by kernel_rfl)).symm.trans h0_) (by decide), (by repeat (first | (with_reducible first | exact HB.out | apply below_alloc | apply pw_below_drewN | apply below_drew1 | refine below_set ?_ (IsS48.ge HI294.out) | refine below_set ?_ GE292.out | refine below_set ?_ GE293.out | refine below_set ?_ GE301.out) | exact HB.out)), fun _ h1_ => absurd ((up_self b 7).symm.trans h1_) (by decide), fun _ => (pr HO309), fun _ => (by repeat (first | (with_reducible first | exact HI294.out | apply IsS48.alloc | apply IsS48.drewN | apply IsS48.drew | apply IsS48.set_1 | apply IsS48.set_2 | refine IsS48.far ?_ NB294_292.out _ | refine IsS48.far ?_ NB294_293.out _ | refine IsS48.far ?_ NB294_301.out _) | exact HI294.out)), fun h0_ => absurd ((hoff 9 (by kernel_rfl)).symm.trans h0_) (by decide), fun h0_ => absurd ((hoff 10 (by kernel_rfl)).symm.trans h0_) (by decide)⟩
  refine steps_cons ?_ ?_
  ·rintro b a w' ⟨v308, ha, Q_BK292, Q_BK293, Q_BK301, Q_HI294, Q_HB, Q_HI294_e4, Q_HO309, Q_HI294_e7, Q_BK292_e9, Q_BK293_e10⟩ hb_ hon hoff
   refine ⟨_, rfl, fun K hK => ?_⟩
   have e17 : a.tmps[17]? = some (.int .i64 t295) := by rw [ha]; exact (putSel_off rfl).trans rfl
   replace ha := Aside0.mk ha
   have BK292 := Aside0.mk (Q_BK292 (hoff 9 (by kernel_rfl)))
   have BK293 := Aside0.mk (Q_BK293 (hoff 10 (by kernel_rfl)))
   have BK301 := Aside0.mk Q_BK301
   have HB := Aside0.mk Q_HB
   have HO309 := Aside0.mk (Q_HO309 (hon 6 (by kernel_rfl)))
   have HI294 := Aside0.mk (Q_HI294_e7 (hon 7 (by kernel_rfl)))
   refine value_ (w1 := w') (v := .int .i64 t295) (by rfl) rfl ?_ ?_
   ·go_simp
    (try simp only [i64_w])
    try rfl
   refine hK.out _ _ ⟨v308, (by rw [ha.out]; exact putSel_upk 4 hb_ rfl rfl rfl), Q_BK292, Q_BK293, Q_BK301, fun h0_ => absurd ((hon 4 (by kernel_rfl)).symm.trans h0_) (by decide), Q_HB, fun _ h1_ => absurd ((hon 7 (by kernel_rfl)).symm.trans h1_) (by decide), Q_HO309, Q_HI294_e7, fun h0_ => absurd ((hoff 9 (by kernel_rfl)).symm.trans h0_) (by decide), fun h0_ => absurd ((hoff 10 (by kernel_rfl)).symm.trans h0_) (by decide)⟩
  refine steps_cons ?_ ?_
  ·rintro b a w' ⟨v308, ha, Q_BK292, Q_BK293, Q_BK301, Q_HI294, Q_HB, Q_HI294_e4, Q_HO309, Q_HI294_e7, Q_BK292_e9, Q_BK293_e10⟩ hb_ hon hoff
   refine ⟨_, rfl, fun K hK => ?_⟩
   have e3 : a.tmps[3]? = some (.pointer (some ⟨gb292, 0, none⟩)) := by rw [ha]; exact (putSel_off rfl).trans rfl
   have e18 : a.tmps[18]? = some (.agg #[.int .i64 t296, .bool t297, .int .i64 t298]) := by rw [ha]; exact putSel_on (e := (1, 18, .agg #[.int .i64 t296, .bool t297, .int .i64 t298])) 0 rfl rfl (hon 1 (by kernel_rfl)) rfl
   replace ha := Aside0.mk ha
   have BK292 := Aside0.mk (Q_BK292 hb_)
   have BK293 := Aside0.mk (Q_BK293 (hoff 10 (by kernel_rfl)))
   have BK301 := Aside0.mk Q_BK301
   have HB := Aside0.mk Q_HB
   have HO309 := Aside0.mk (Q_HO309 (hon 6 (by kernel_rfl)))
   have HI294 := Aside0.mk (Q_HI294_e7 (hon 7 (by kernel_rfl)))
   have hs22 : w'.cell? ⟨gb292, 0, none⟩ = some (.int .i64 0) := ec BK292
   have hfs22 := blk_frozen BK292.out 0
   have hns22_1 := NB293_292.out
   have hns22_2 := NB301_292.out
   have hms22_1 := NB292_293.out
   have hms22_2 := NB292_301.out
   have hs23 : w'.cell? ⟨gb292, 1, none⟩ = some (.bool false) := ec BK292
   have hfs23 := blk_frozen BK292.out 1
   have hns23_1 := NB293_292.out
   have hns23_2 := NB301_292.out
   have hms23_1 := NB292_293.out
   have hms23_2 := NB292_301.out
   have hs24 : w'.cell? ⟨gb292, 2, none⟩ = some (.int .i64 0) := ec BK292
   have hfs24 := blk_frozen BK292.out 2
   have hns24_1 := NB293_292.out
   have hns24_2 := NB301_292.out
   have hms24_1 := NB292_293.out
   have hms24_2 := NB292_301.out
   refine skip_ (w1 := ?_) (by rfl) rfl ?_ ?_
   rotate_left
   ·go_simp
    rfl
   refine hK.out _ _ ⟨v308, (by rw [ha.out]; exact putSel_none (v := undef) rfl), fun h0_ => absurd ((up_self b 9).symm.trans h0_) (by decide), fun _ => (by (with_reducible repeat (first | refine blk_drewN ?_ _ | refine blk_drew ?_ | refine blk_alloc ?_ _)); refine blk_far ?_ NB293_292.out _; (with_reducible repeat (first | refine blk_drewN ?_ _ | refine blk_drew ?_ | refine blk_alloc ?_ _)); refine blk_far ?_ NB293_292.out _; (with_reducible repeat (first | refine blk_drewN ?_ _ | refine blk_drew ?_ | refine blk_alloc ?_ _)); refine blk_far ?_ NB293_292.out _; (with_reducible repeat (first | refine blk_drewN ?_ _ | refine blk_drew ?_ | refine blk_alloc ?_ _)); exact BK293.out), (by (with_reducible repeat (first | refine blk_drewN ?_ _ | refine blk_drew ?_ | refine blk_alloc ?_ _)); refine blk_far ?_ NB301_292.out _; (with_reducible repeat (first | refine blk_drewN ?_ _ | refine blk_drew ?_ | refine blk_alloc ?_ _)); refine blk_far ?_ NB301_292.out _; (with_reducible repeat (first | refine blk_drewN ?_ _ | refine blk_drew ?_ | refine blk_alloc ?_ _)); refine blk_far ?_ NB301_292.out _; (with_reducible repeat (first | refine blk_drewN ?_ _ | refine blk_drew ?_ | refine blk_alloc ?_ _)); exact BK301.out), fun h0_ => absurd ((hon 4 (by kernel_rfl)).symm.trans h0_) (by decide), (by repeat (first | (with_reducible first | exact HB.out | apply below_alloc | apply pw_below_drewN | apply below_drew1 | refine below_set ?_ (IsS48.ge HI294.out) | refine below_set ?_ GE292.out | refine below_set ?_ GE293.out | refine below_set ?_ GE301.out) | exact HB.out)), fun _ h1_ => absurd ((hon 7 (by kernel_rfl)).symm.trans h1_) (by decide), fun _ => (by (with_reducible repeat (first | apply Kd.R_alloc | apply Kd.R_drewN | apply Kd.R_drew)); exact Kd.R_mono (Kd.R_far (p := ⟨gb292, 2, none⟩) (Kd.R_far (p := ⟨gb292, 1, none⟩) (Kd.R_far (p := ⟨gb292, 0, none⟩) (Kd.R_types HO309.out BK292.out (by decide)) (fun _ hk => hk.2) (.int .i64 t296)) (fun _ hk => hk.2) (.bool t297)) (fun _ hk => hk.2) (.int .i64 t298)) (fun _ hk => trivial)), fun _ => (by repeat (first | (with_reducible first | exact HI294.out | apply IsS48.alloc | apply IsS48.drewN | apply IsS48.drew | apply IsS48.set_1 | apply IsS48.set_2 | refine IsS48.far ?_ NB294_292.out _ | refine IsS48.far ?_ NB294_293.out _ | refine IsS48.far ?_ NB294_301.out _) | exact HI294.out)), fun _ => (by (with_reducible repeat (first | refine blk_drewN ?_ _ | refine blk_drew ?_ | refine blk_alloc ?_ _)); refine blk_put (cs := #[.int .i64 t296, .bool t297, .int .i64 0]) ?_ 2 _ rfl; (with_reducible repeat (first | refine blk_drewN ?_ _ | refine blk_drew ?_ | refine blk_alloc ?_ _)); refine blk_put (cs := #[.int .i64 t296, .bool false, .int .i64 0]) ?_ 1 _ rfl; (with_reducible repeat (first | refine blk_drewN ?_ _ | refine blk_drew ?_ | refine blk_alloc ?_ _)); refine blk_put (cs := #[.int .i64 0, .bool false, .int .i64 0]) ?_ 0 _ rfl; (with_reducible repeat (first | refine blk_drewN ?_ _ | refine blk_drew ?_ | refine blk_alloc ?_ _)); exact BK292.out), fun h0_ => absurd ((hoff 10 (by kernel_rfl)).symm.trans h0_) (by decide)⟩
  refine steps_cons ?_ ?_
  ·rintro b a w' ⟨v308, ha, Q_BK292, Q_BK293, Q_BK301, Q_HI294, Q_HB, Q_HI294_e4, Q_HO309, Q_HI294_e7, Q_BK292_e9, Q_BK293_e10⟩ hb_ hon hoff
   refine ⟨_, rfl, fun K hK => ?_⟩
   have e4 : a.tmps[4]? = some (.pointer (some ⟨gb293, 0, none⟩)) := by rw [ha]; exact (putSel_off rfl).trans rfl
   have e21 : a.tmps[21]? = some (.agg #[.int .i64 t302, .bool t303, .int .i64 t304]) := by rw [ha]; exact putSel_on (e := (4, 21, .agg #[.int .i64 t302, .bool t303, .int .i64 t304])) 1 rfl rfl (hon 4 (by kernel_rfl)) rfl
   replace ha := Aside0.mk ha
   have BK293 := Aside0.mk (Q_BK293 hb_)
   have BK301 := Aside0.mk Q_BK301
   have HB := Aside0.mk Q_HB
   have HO309 := Aside0.mk (Q_HO309 (hon 6 (by kernel_rfl)))
   have HI294 := Aside0.mk (Q_HI294_e7 (hon 7 (by kernel_rfl)))
   have BK292 := Aside0.mk (Q_BK292_e9 (hon 9 (by kernel_rfl)))
   have hs25 : w'.cell? ⟨gb293, 0, none⟩ = some (.int .i64 0) := ec BK293
   have hfs25 := blk_frozen BK293.out 0
   have hns25_0 := NB292_293.out
   have hns25_2 := NB301_293.out
   have hms25_0 := NB293_292.out
   have hms25_2 := NB293_301.out
   have hs26 : w'.cell? ⟨gb293, 1, none⟩ = some (.bool false) := ec BK293
   have hfs26 := blk_frozen BK293.out 1
   have hns26_0 := NB292_293.out
   have hns26_2 := NB301_293.out
   have hms26_0 := NB293_292.out
   have hms26_2 := NB293_301.out
   have hs27 : w'.cell? ⟨gb293, 2, none⟩ = some (.int .i64 0) := ec BK293
   have hfs27 := blk_frozen BK293.out 2
   have hns27_0 := NB292_293.out
   have hns27_2 := NB301_293.out
   have hms27_0 := NB293_292.out
   have hms27_2 := NB293_301.out
   refine skip_ (w1 := ?_) (by rfl) rfl ?_ ?_
   rotate_left
   ·go_simp
    rfl
   refine hK.out _ _ ⟨v308, (by rw [ha.out]; exact putSel_none (v := undef) rfl), fun h0_ => absurd ((hon 9 (by kernel_rfl)).symm.trans h0_) (by decide), fun h0_ => absurd ((up_self b 10).symm.trans h0_) (by decide), (by (with_reducible repeat (first | refine blk_drewN ?_ _ | refine blk_drew ?_ | refine blk_alloc ?_ _)); refine blk_far ?_ NB301_293.out _; (with_reducible repeat (first | refine blk_drewN ?_ _ | refine blk_drew ?_ | refine blk_alloc ?_ _)); refine blk_far ?_ NB301_293.out _; (with_reducible repeat (first | refine blk_drewN ?_ _ | refine blk_drew ?_ | refine blk_alloc ?_ _)); refine blk_far ?_ NB301_293.out _; (with_reducible repeat (first | refine blk_drewN ?_ _ | refine blk_drew ?_ | refine blk_alloc ?_ _)); exact BK301.out), fun h0_ => absurd ((hon 4 (by kernel_rfl)).symm.trans h0_) (by decide), (by repeat (first | (with_reducible first | exact HB.out | apply below_alloc | apply pw_below_drewN | apply below_drew1 | refine below_set ?_ (IsS48.ge HI294.out) | refine below_set ?_ GE292.out | refine below_set ?_ GE293.out | refine below_set ?_ GE301.out) | exact HB.out)), fun _ h1_ => absurd ((hon 7 (by kernel_rfl)).symm.trans h1_) (by decide), fun _ => (by (with_reducible repeat (first | apply Kd.R_alloc | apply Kd.R_drewN | apply Kd.R_drew)); exact Kd.R_mono (Kd.R_far (p := ⟨gb293, 2, none⟩) (Kd.R_far (p := ⟨gb293, 1, none⟩) (Kd.R_far (p := ⟨gb293, 0, none⟩) (Kd.R_types HO309.out BK293.out (by decide)) (fun _ hk => hk.2) (.int .i64 t302)) (fun _ hk => hk.2) (.bool t303)) (fun _ hk => hk.2) (.int .i64 t304)) (fun _ hk => trivial)), fun _ => (by repeat (first | (with_reducible first | exact HI294.out | apply IsS48.alloc | apply IsS48.drewN | apply IsS48.drew | apply IsS48.set_1 | apply IsS48.set_2 | refine IsS48.far ?_ NB294_292.out _ | refine IsS48.far ?_ NB294_293.out _ | refine IsS48.far ?_ NB294_301.out _) | exact HI294.out)), fun _ => (by (with_reducible repeat (first | refine blk_drewN ?_ _ | refine blk_drew ?_ | refine blk_alloc ?_ _)); refine blk_far ?_ NB292_293.out _; (with_reducible repeat (first | refine blk_drewN ?_ _ | refine blk_drew ?_ | refine blk_alloc ?_ _)); refine blk_far ?_ NB292_293.out _; (with_reducible repeat (first | refine blk_drewN ?_ _ | refine blk_drew ?_ | refine blk_alloc ?_ _)); refine blk_far ?_ NB292_293.out _; (with_reducible repeat (first | refine blk_drewN ?_ _ | refine blk_drew ?_ | refine blk_alloc ?_ _)); exact BK292.out), fun _ => (by (with_reducible repeat (first | refine blk_drewN ?_ _ | refine blk_drew ?_ | refine blk_alloc ?_ _)); refine blk_put (cs := #[.int .i64 t302, .bool t303, .int .i64 0]) ?_ 2 _ rfl; (with_reducible repeat (first | refine blk_drewN ?_ _ | refine blk_drew ?_ | refine blk_alloc ?_ _)); refine blk_put (cs := #[.int .i64 t302, .bool false, .int .i64 0]) ?_ 1 _ rfl; (with_reducible repeat (first | refine blk_drewN ?_ _ | refine blk_drew ?_ | refine blk_alloc ?_ _)); refine blk_put (cs := #[.int .i64 0, .bool false, .int .i64 0]) ?_ 0 _ rfl; (with_reducible repeat (first | refine blk_drewN ?_ _ | refine blk_drew ?_ | refine blk_alloc ?_ _)); exact BK293.out)⟩
  refine steps_cons ?_ ?_
  ·rintro b a w' ⟨v308, ha, Q_BK292, Q_BK293, Q_BK301, Q_HI294, Q_HB, Q_HI294_e4, Q_HO309, Q_HI294_e7, Q_BK292_e9, Q_BK293_e10⟩ hb_ hon hoff
   refine ⟨_, rfl, fun K hK => ?_⟩
   have e24 : a.tmps[24]? = some (.int .i64 t310) := by rw [ha]; exact putSel_on (e := (7, 24, .int .i64 t310)) 3 rfl rfl (hon 7 (by kernel_rfl)) rfl
   replace ha := Aside0.mk ha
   have BK301 := Aside0.mk Q_BK301
   have HB := Aside0.mk Q_HB
   have HO309 := Aside0.mk (Q_HO309 (hon 6 (by kernel_rfl)))
   have HI294 := Aside0.mk (Q_HI294_e7 (hon 7 (by kernel_rfl)))
   have BK292 := Aside0.mk (Q_BK292_e9 (hon 9 (by kernel_rfl)))
   have BK293 := Aside0.mk (Q_BK293_e10 (hon 10 (by kernel_rfl)))
   refine value_ (w1 := w') (v := .int .i64 t310) (by rfl) rfl ?_ ?_
   ·go_simp
    (try simp only [i64_w])
    try rfl
   refine hK.out _ _ ⟨v308, (by rw [ha.out]; exact putSel_upk 5 hb_ rfl rfl rfl), fun h0_ => absurd ((hon 9 (by kernel_rfl)).symm.trans h0_) (by decide), fun h0_ => absurd ((hon 10 (by kernel_rfl)).symm.trans h0_) (by decide), Q_BK301, fun h0_ => absurd ((hon 4 (by kernel_rfl)).symm.trans h0_) (by decide), Q_HB, fun _ h1_ => absurd ((hon 7 (by kernel_rfl)).symm.trans h1_) (by decide), Q_HO309, Q_HI294_e7, Q_BK292_e9, Q_BK293_e10⟩
  exact steps_nil
 rintro b a w27 hall ⟨v308, ha, Q_BK292, Q_BK293, Q_BK301, Q_HI294, Q_HB, Q_HI294_e4, Q_HO309, Q_HI294_e7, Q_BK292_e9, Q_BK293_e10⟩
 clear BK292 BK293 BK301 HB HI294
 have hb1_ := hall 1 (by kernel_rfl)
 have hb4_ := hall 4 (by kernel_rfl)
 have hb6_ := hall 6 (by kernel_rfl)
 have hb7_ := hall 7 (by kernel_rfl)
 have hb8_ := hall 8 (by kernel_rfl)
 have hb9_ := hall 9 (by kernel_rfl)
 have hb10_ := hall 10 (by kernel_rfl)
 have hb11_ := hall 11 (by kernel_rfl)
 subst ha
 simp only [putSel, hb1_, hb4_, hb6_, hb7_, hb8_, hb9_, hb10_, hb11_, if_true, Act.put, List.setIfInBounds_toArray, List.set_cons_zero, List.set_cons_succ]
 clear Q_BK292
 clear Q_BK293
 have BK301 := Aside0.mk Q_BK301
 clear Q_BK301
 clear Q_HI294
 have HB := Aside0.mk Q_HB
 clear Q_HB
 clear Q_HI294_e4
 have HO309 := Aside0.mk (Q_HO309 hb6_)
 clear Q_HO309
 have HI294 := Aside0.mk (Q_HI294_e7 hb7_)
 clear Q_HI294_e7
 have BK292 := Aside0.mk (Q_BK292_e9 hb9_)
 clear Q_BK292_e9
 have BK293 := Aside0.mk (Q_BK293_e10 hb10_)
 clear Q_BK293_e10
 clear hall hb1_ hb4_ hb6_ hb7_ hb8_ hb9_ hb10_ hb11_
 try go_wp2
 refine bodyPost_ret (results_list (rs := [.tmp 2, .cell 3 25, .cell 4 25, .tmp 5]) rfl (by simp) (.tmp (.cell gb292 25 #[.int .i64 t296, .bool t297, .int .i64 t298] (0, 0) _ rfl (pk BK292) Try.underlying25 rfl (by kernel_rfl) (.cell gb293 25 #[.int .i64 t302, .bool t303, .int .i64 t304] (0, 0) _ rfl (pk BK293) Try.underlying25 rfl (by kernel_rfl) (.tmp .nil))))) rfl ?_
 exact ⟨rs, by repeat (first | (with_reducible first | exact HB.out | apply below_alloc | apply pw_below_drewN | apply below_drew1 | refine below_set ?_ (IsS48.ge HI294.out) | refine below_set ?_ GE292.out | refine below_set ?_ GE293.out | refine below_set ?_ GE301.out) | exact HB.out)⟩

/-! ### impl_CountMeetings: function 17 -/
mutual
def impl_CountMeetings.j0 : Nat → Int → Int → Bool → Int → Bool → Int → Int → Bool → Int → Option (Int × Bool)
  | 0, _, _, _, _, _, _, _, _, _ => none
  | k + 1, x0, x3, x26, x314000, x314001, x314002, x315000, x315001, x315002 => if x26 = true then (some (0, false)) else (impl_CountMeetings.l0 k x0 0 (wrap64 (x3 + 1)) 0 x314000 x314001 x314002 x315000 x315001 x315002)
def impl_CountMeetings.l0 : Nat → Int → Int → Int → Int → Int → Bool → Int → Int → Bool → Int → Option (Int × Bool)
  | 0, _, _, _, _, _, _, _, _, _, _ => none
  | k + 1, x0, x10, x28, x29, x314000, x314001, x314002, x315000, x315001, x315002 => if x29 < x28 then ((impl_meet.f x0 x314000 x314001 x314002 x315000 x315001 x315002 x29).bind fun t318 => (if t318 = true then (impl_CountMeetings.l0 k x0 (wrap64 (x10 + 1)) x28 (wrap64 (x29 + 1)) x314000 x314001 x314002 x315000 x315001 x315002) else (impl_CountMeetings.l0 k x0 x10 x28 (wrap64 (x29 + 1)) x314000 x314001 x314002 x315000 x315001 x315002))) else (some (x10, true))
end
def impl_CountMeetings.f (k : Nat) (a0 : Int) (a1_0 : Int) (a1_1 : Bool) (a1_2 : Int) (a2_0 : Int) (a2_1 : Bool) (a2_2 : Int) (a3 : Int) : Option (Int × Bool) := (impl_isSignal.f a0 a1_0 a1_1 a1_2).bind fun t315 => (if t315 = true then ((impl_isSignal.f a0 a2_0 a2_1 a2_2).bind fun t316 => (if t316 = true then ((impl_in.f a3 0 1000).bind fun t317 => (impl_CountMeetings.j0 k a0 a3 (!t317) a1_0 a1_1 a1_2 a2_0 a2_1 a2_2)) else (impl_CountMeetings.j0 k a0 a3 true a1_0 a1_1 a1_2 a2_0 a2_1 a2_2))) else (impl_CountMeetings.j0 k a0 a3 true a1_0 a1_1 a1_2 a2_0 a2_1 a2_2))
theorem impl_CountMeetings.mono_l : ∀ k, (∀ y0 y1 y2 y3 y4 y5 y6 y7 y8, LeO (impl_CountMeetings.j0 k y0 y1 y2 y3 y4 y5 y6 y7 y8) (impl_CountMeetings.j0 (k + 1) y0 y1 y2 y3 y4 y5 y6 y7 y8)) ∧ (∀ y0 y1 y2 y3 y4 y5 y6 y7 y8 y9, LeO (impl_CountMeetings.l0 k y0 y1 y2 y3 y4 y5 y6 y7 y8 y9) (impl_CountMeetings.l0 (k + 1) y0 y1 y2 y3 y4 y5 y6 y7 y8 y9))
  | 0 => ⟨fun _ _ _ _ _ _ _ _ _ r h => by simp [impl_CountMeetings.j0] at h, fun _ _ _ _ _ _ _ _ _ _ r h => by simp [impl_CountMeetings.l0] at h⟩
  | k + 1 => by
    obtain ⟨ih0, ih1⟩ := impl_CountMeetings.mono_l k
    refine ⟨?_, ?_⟩
    · intro y0 y1 y2 y3 y4 y5 y6 y7 y8
      unfold impl_CountMeetings.j0
      repeat' first
      | (with_reducible exact ih0 _ _ _ _ _ _ _ _ _)
      | (with_reducible exact ih1 _ _ _ _ _ _ _ _ _ _)
      | (with_reducible exact LeO.refl _)
      | (with_reducible exact LeO.none _)
      | (with_reducible refine LeO.ite ?_ ?_)
      | (with_reducible refine LeO.bind ?_ (fun _ => ?_))
      | exact ih0 _ _ _ _ _ _ _ _ _
      | exact ih1 _ _ _ _ _ _ _ _ _ _
      | exact LeO.none _
      | refine LeO.ite ?_ ?_
      | refine LeO.bind ?_ (fun _ => ?_)
    · intro y0 y1 y2 y3 y4 y5 y6 y7 y8 y9
      unfold impl_CountMeetings.l0
      repeat' first
      | (with_reducible exact ih0 _ _ _ _ _ _ _ _ _)
      | (with_reducible exact ih1 _ _ _ _ _ _ _ _ _ _)
      | (with_reducible exact LeO.refl _)
      | (with_reducible exact LeO.none _)
      | (with_reducible refine LeO.ite ?_ ?_)
      | (with_reducible refine LeO.bind ?_ (fun _ => ?_))
      | exact ih0 _ _ _ _ _ _ _ _ _
      | exact ih1 _ _ _ _ _ _ _ _ _ _
      | exact LeO.none _
      | refine LeO.ite ?_ ?_
      | refine LeO.bind ?_ (fun _ => ?_)
theorem impl_CountMeetings.mono : ∀ a0 a1 a2 a3 a4 a5 a6 a7 k, LeO (impl_CountMeetings.f k a0 a1 a2 a3 a4 a5 a6 a7) (impl_CountMeetings.f (k + 1) a0 a1 a2 a3 a4 a5 a6 a7) := by
  intro a0 a1 a2 a3 a4 a5 a6 a7 k
  obtain ⟨ih0, ih1⟩ := impl_CountMeetings.mono_l k
  unfold impl_CountMeetings.f
  repeat' first
      | (with_reducible exact ih0 _ _ _ _ _ _ _ _ _)
      | (with_reducible exact ih1 _ _ _ _ _ _ _ _ _ _)
      | (with_reducible exact LeO.refl _)
      | (with_reducible exact LeO.none _)
      | (with_reducible refine LeO.ite ?_ ?_)
      | (with_reducible refine LeO.bind ?_ (fun _ => ?_))
      | exact ih0 _ _ _ _ _ _ _ _ _
      | exact ih1 _ _ _ _ _ _ _ _ _ _
      | exact LeO.none _
      | refine LeO.ite ?_ ?_
      | refine LeO.bind ?_ (fun _ => ?_)
set_option maxHeartbeats 8000000 in
set_option maxRecDepth 100000 in
theorem impl_CountMeetings.calls (k : Nat) (a0 : Int) (a1_0 : Int) (a1_1 : Bool) (a1_2 : Int) (a2_0 : Int) (a2_1 : Bool) (a2_2 : Int) (a3 : Int) (r1 : Int) (r2 : Bool) (w : World) (h : impl_CountMeetings.f k a0 a1_0 a1_1 a1_2 a2_0 a2_1 a2_2 a3 = some (r1, r2)) :
  Calls Try.prog 17 #[.int .i64 a0, .agg #[.int .i64 a1_0, .bool a1_1, .int .i64 a1_2], .agg #[.int .i64 a2_0, .bool a2_1, .int .i64 a2_2], .int .i64 a3] w fun e w' => e = .returned (.tuple #[.int .i64 r1, .bool r2]) ∧ Below w.heap.size w w' := by
 have hu25 := Try.underlying25
 have HB := Aside0.mk (Below.refl w.heap.size w)
 unfold impl_CountMeetings.f at h
 have H := h
 clear h
 have HC5 := Aside0.mk H
 clear H
 go_enter Try.func17, Try.ntmps17
 go_upto_region 1 with (first | ((with_reducible refine gate_dst (N := 5) rfl ?_); refine bx 5 25 #[.int .i64 a1_0, .bool a1_1, .int .i64 a1_2] ?_; intro gb313 hg w6 hbox hb; have BK313 := hbox; have GW313 := gs hg; have GE313 := gs hg; replace HB := bs hb; clear hb hbox hg) | ((with_reducible refine gate_dst (N := 6) rfl ?_); refine bx 6 25 #[.int .i64 a2_0, .bool a2_1, .int .i64 a2_2] ?_; intro gb314 hg w7 hbox hb; have BK314 := hbox; have GW314 := gs hg; have GE314 := gs hg; replace HB := bs hb; have NB313_314 := nl BK313 hg; have NB314_313 := ng BK313 hg; replace BK313 := nk BK313 hb; clear hb hbox hg))
 (try simp only [Act.put, List.setIfInBounds_toArray, List.set_cons_zero, List.set_cons_succ])
 go_cut [26] (fun v26 wc => ∃ (kq : Nat) (x26_4 : Bool), v26 = .bool x26_4 ∧ Aside0 (impl_CountMeetings.j0 kq a0 a3 x26_4 a1_0 a1_1 a1_2 a2_0 a2_1 a2_2 = some (r1, r2)) ∧ Aside0 (kq ≤ k) ∧ Aside0 (wc.heap[gb313]? = some (.cells #[.int .i64 a1_0, .bool a1_1, .int .i64 a1_2] 25 (0, 0))) ∧ Aside0 (wc.heap[gb314]? = some (.cells #[.int .i64 a2_0, .bool a2_1, .int .i64 a2_2] 25 (0, 0))) ∧ Aside0 (Below w.heap.size w wc))
 case first =>
  have H := HC5.out
  clear HC5
  replace H := Option.bind_eq_some_iff.mp H
  obtain ⟨t315, A80, H⟩ := H
  (try dsimp only at H)
  have A8 := Aside0.mk A80
  clear A80
  by_cases c9 : t315 = true
  ·subst c9
   rw [if_pos rfl] at H
   replace H := Option.bind_eq_some_iff.mp H
   obtain ⟨t316, A100, H⟩ := H
   (try dsimp only at H)
   have A10 := Aside0.mk A100
   clear A100
   by_cases c11 : t316 = true
   ·subst c11
    rw [if_pos rfl] at H
    replace H := Option.bind_eq_some_iff.mp H
    obtain ⟨t317, A120, H⟩ := H
    (try dsimp only at H)
    have A12 := Aside0.mk A120
    clear A120
    have H' := Aside0.mk H
    clear H
    have hnb13 := NB313_314.out
    have hnc13 := NB314_313.out
    have hcz14_0 := bc BK313 0 (.int .i64 a1_0)
    have hcz14_1 := bc BK313 1 (.bool a1_1)
    have hcz14_2 := bc BK313 2 (.int .i64 a1_2)
    have hfz14_0 := blk_frozen BK313.out 0
    have hfz14_1 := blk_frozen BK313.out 1
    have hfz14_2 := blk_frozen BK313.out 2
    go_wp2_with (first | ((with_reducible refine gate_callee (f := 23) rfl ?_); refine gl (some 14) Try.func23 #[.int .i64 a0, .agg #[.int .i64 a1_0, .bool a1_1, .int .i64 a1_2]] ?_; (with_reducible refine (impl_isSignal.calls a0 a1_0 a1_1 a1_2 true _ A8.out).mono ?_); rintro e w15 ⟨rfl, hb⟩; refine ⟨_, rfl, ?_⟩; replace BK313 := nk BK313 hb; replace BK314 := nk BK314 hb; replace HB := bs hb; (try clear hb); have hcz16_0 := bc BK314 0 (.int .i64 a2_0); have hcz16_1 := bc BK314 1 (.bool a2_1); have hcz16_2 := bc BK314 2 (.int .i64 a2_2); have hfz16_0 := blk_frozen BK314.out 0; have hfz16_1 := blk_frozen BK314.out 1; have hfz16_2 := blk_frozen BK314.out 2) | (go_at_call 23; (with_reducible refine (impl_isSignal.calls a0 a2_0 a2_1 a2_2 true _ A10.out).mono ?_); rintro e w17 ⟨rfl, hb⟩; replace BK313 := nk BK313 hb; replace BK314 := nk BK314 hb; replace HB := bs hb; (try clear hb)) | (go_at_call 33; (with_reducible refine (impl_in.calls a3 0 1000 t317 _ A12.out).mono ?_); rintro e w' ⟨rfl, ⟨nd, rfl⟩⟩))
    go_meet
    case rel => exact ⟨_, (!t317), (rs), H', ⟨by first | omega | exact Nat.le_refl _⟩, ⟨pk BK313⟩, ⟨pk BK314⟩, ⟨bw⟩⟩
   ·replace c11 := Bool.eq_false_iff.mpr c11
    subst c11
    rw [if_neg (show ¬ (false = true) by decide)] at H
    have H' := Aside0.mk H
    clear H
    have hnb18 := NB313_314.out
    have hnc18 := NB314_313.out
    have hcz19_0 := bc BK313 0 (.int .i64 a1_0)
    have hcz19_1 := bc BK313 1 (.bool a1_1)
    have hcz19_2 := bc BK313 2 (.int .i64 a1_2)
    have hfz19_0 := blk_frozen BK313.out 0
    have hfz19_1 := blk_frozen BK313.out 1
    have hfz19_2 := blk_frozen BK313.out 2
    go_wp2_with (first | ((with_reducible refine gate_callee (f := 23) rfl ?_); refine gl (some 14) Try.func23 #[.int .i64 a0, .agg #[.int .i64 a1_0, .bool a1_1, .int .i64 a1_2]] ?_; (with_reducible refine (impl_isSignal.calls a0 a1_0 a1_1 a1_2 true _ A8.out).mono ?_); rintro e w20 ⟨rfl, hb⟩; refine ⟨_, rfl, ?_⟩; replace BK313 := nk BK313 hb; replace BK314 := nk BK314 hb; replace HB := bs hb; (try clear hb); have hcz21_0 := bc BK314 0 (.int .i64 a2_0); have hcz21_1 := bc BK314 1 (.bool a2_1); have hcz21_2 := bc BK314 2 (.int .i64 a2_2); have hfz21_0 := blk_frozen BK314.out 0; have hfz21_1 := blk_frozen BK314.out 1; have hfz21_2 := blk_frozen BK314.out 2) | (go_at_call 23; (with_reducible refine (impl_isSignal.calls a0 a2_0 a2_1 a2_2 false _ A10.out).mono ?_); rintro e w22 ⟨rfl, hb⟩; replace BK313 := nk BK313 hb; replace BK314 := nk BK314 hb; replace HB := bs hb; (try clear hb)))
    go_meet
    case rel => exact ⟨_, (true), (rs), H', ⟨by first | omega | exact Nat.le_refl _⟩, ⟨pk BK313⟩, ⟨pk BK314⟩, ⟨bw⟩⟩
  ·replace c9 := Bool.eq_false_iff.mpr c9
   subst c9
   rw [if_neg (show ¬ (false = true) by decide)] at H
   have H' := Aside0.mk H
   clear H
   have hnb23 := NB313_314.out
   have hnc23 := NB314_313.out
   have hcz24_0 := bc BK313 0 (.int .i64 a1_0)
   have hcz24_1 := bc BK313 1 (.bool a1_1)
   have hcz24_2 := bc BK313 2 (.int .i64 a1_2)
   have hfz24_0 := blk_frozen BK313.out 0
   have hfz24_1 := blk_frozen BK313.out 1
   have hfz24_2 := blk_frozen BK313.out 2
   go_wp2_with (first | ((with_reducible refine gate_callee (f := 23) rfl ?_); refine gl (some 14) Try.func23 #[.int .i64 a0, .agg #[.int .i64 a1_0, .bool a1_1, .int .i64 a1_2]] ?_; (with_reducible refine (impl_isSignal.calls a0 a1_0 a1_1 a1_2 false _ A8.out).mono ?_); rintro e w25 ⟨rfl, hb⟩; refine ⟨_, rfl, ?_⟩; replace BK313 := nk BK313 hb; replace BK314 := nk BK314 hb; replace HB := bs hb; (try clear hb)))
   go_meet
   case rel => exact ⟨_, (true), (rs), H', ⟨by first | omega | exact Nat.le_refl _⟩, ⟨pk BK313⟩, ⟨pk BK314⟩, ⟨bw⟩⟩
 case rest =>
  clear HC5
  try clear c1
  try clear c2
  try clear p2
  try clear c9
  try clear c11
  try clear c13
  try clear c17
  try clear c18
  try clear c23
  try clear hcz14_0
  try clear hcz14_1
  try clear hcz14_2
  try clear hcz16_0
  try clear hcz16_1
  try clear hcz16_2
  try clear hcz19_0
  try clear hcz19_1
  try clear hcz19_2
  try clear hcz21_0
  try clear hcz21_1
  try clear hcz21_2
  try clear hcz24_0
  try clear hcz24_1
  try clear hcz24_2
  try clear hfz14_0
  try clear hfz14_1
  try clear hfz14_2
  try clear hfz16_0
  try clear hfz16_1
  try clear hfz16_2
  try clear hfz19_0
  try clear hfz19_1
  try clear hfz19_2
  try clear hfz21_0
  try clear hfz21_1
  try clear hfz21_2
  try clear hfz24_0
  try clear hfz24_1
  try clear hfz24_2
  obtain ⟨kq, x26_4, rfl, HA, HJ4, BK313, BK314, HB⟩ := hcut
  cases kq with
  | zero => exact absurd HA.out (by simp [impl_CountMeetings.j0])
  | succ kj4 =>
   have H := HA.out
   clear HA
   simp only [impl_CountMeetings.j0] at H
   by_cases c26 : x26_4 = true
   ·subst c26
    rw [if_pos rfl] at H
    simp only [Option.some.injEq, Prod.mk.injEq] at H
    obtain ⟨rfl, rfl⟩ := H
    go_wp2
    go_ret2
    exact ⟨rs, bw⟩
   ·replace c26 := Bool.eq_false_iff.mpr c26
    subst c26
    rw [if_neg (show ¬ (false = true) by decide)] at H
    have H' := Aside0.mk H
    clear H
    go_wp2
    go_loopg [10, 29] kj4 (fun kq v10 v29 w' => ∃ (x10_2 : Int) (x29_2 : Int), v10 = .int .i64 x10_2 ∧ v29 = .int .i64 x29_2 ∧ Aside0 (impl_CountMeetings.l0 kq a0 x10_2 (wrap64 (a3 + 1)) x29_2 a1_0 a1_1 a1_2 a2_0 a2_1 a2_2 = some (r1, r2)) ∧ Aside0 (kq ≤ kj4) ∧ Aside0 (w'.heap[gb313]? = some (.cells #[.int .i64 a1_0, .bool a1_1, .int .i64 a1_2] 25 (0, 0))) ∧ Aside0 (w'.heap[gb314]? = some (.cells #[.int .i64 a2_0, .bool a2_1, .int .i64 a2_2] 25 (0, 0))) ∧ Aside0 (Below w.heap.size w w'))
    case atStart => exact ⟨(0), (0), (rs), (rs), H', ⟨Nat.le_refl _⟩, ⟨pk BK313⟩, ⟨pk BK314⟩, ⟨bw⟩⟩
    case round =>
     clear H'
     try clear c1
     try clear c2
     try clear p2
     try clear p6
     try clear c9
     try clear c11
     try clear c13
     try clear c17
     try clear c18
     try clear c23
     try clear c26
     try clear hcz14_0
     try clear hcz14_1
     try clear hcz14_2
     try clear hcz16_0
     try clear hcz16_1
     try clear hcz16_2
     try clear hcz19_0
     try clear hcz19_1
     try clear hcz19_2
     try clear hcz21_0
     try clear hcz21_1
     try clear hcz21_2
     try clear hcz24_0
     try clear hcz24_1
     try clear hcz24_2
     try clear hfz14_0
     try clear hfz14_1
     try clear hfz14_2
     try clear hfz16_0
     try clear hfz16_1
     try clear hfz16_2
     try clear hfz19_0
     try clear hfz19_1
     try clear hfz19_2
     try clear hfz21_0
     try clear hfz21_1
     try clear hfz21_2
     try clear hfz24_0
     try clear hfz24_1
     try clear hfz24_2
     try clear p2
     obtain ⟨x10_2, x29_2, rfl, rfl, HA, HK2, BK313, BK314, HB⟩ := hrel
     cases gk with
     | zero => exact absurd HA.out (by simp [impl_CountMeetings.l0])
     | succ k2 =>
      have H := HA.out
      clear HA
      simp only [impl_CountMeetings.l0] at H
      by_cases c27 : x29_2 < (wrap64 (a3 + 1))
      ·rw [if_pos c27] at H
       have c27b0 : decide (x29_2 < (wrap64 (a3 + 1))) = true := decide_eq_true c27
       clear c27
       replace H := Option.bind_eq_some_iff.mp H
       obtain ⟨t318, A280, H⟩ := H
       (try dsimp only at H)
       have A28 := Aside0.mk A280
       clear A280
       by_cases c29 : t318 = true
       ·subst c29
        rw [if_pos rfl] at H
        have H' := Aside0.mk H
        clear H
        have hnb30 := NB313_314.out
        have hnc30 := NB314_313.out
        have hcz31_0 : wr.cell? ⟨gb313, 0, none⟩ = some (.int .i64 a1_0) := ec BK313
        have hcz31_1 : wr.cell? ⟨gb313, 1, none⟩ = some (.bool a1_1) := ec BK313
        have hcz31_2 : wr.cell? ⟨gb313, 2, none⟩ = some (.int .i64 a1_2) := ec BK313
        have hfz31_0 := blk_frozen BK313.out 0
        have hfz31_1 := blk_frozen BK313.out 1
        have hfz31_2 := blk_frozen BK313.out 2
        have hcz32_0 : wr.cell? ⟨gb314, 0, none⟩ = some (.int .i64 a2_0) := ec BK314
        have hcz32_1 : wr.cell? ⟨gb314, 1, none⟩ = some (.bool a2_1) := ec BK314
        have hcz32_2 : wr.cell? ⟨gb314, 2, none⟩ = some (.int .i64 a2_2) := ec BK314
        have hfz32_0 := blk_frozen BK314.out 0
        have hfz32_1 := blk_frozen BK314.out 1
        have hfz32_2 := blk_frozen BK314.out 2
        go_wp2_with (first | ((with_reducible refine gate_callee (f := 40) rfl ?_); refine gl (some 36) Try.func40 #[.int .i64 a0, .agg #[.int .i64 a1_0, .bool a1_1, .int .i64 a1_2], .agg #[.int .i64 a2_0, .bool a2_1, .int .i64 a2_2], .int .i64 x29_2] ?_; (with_reducible refine (impl_meet.calls a0 a1_0 a1_1 a1_2 a2_0 a2_1 a2_2 x29_2 true _ A28.out).mono ?_); rintro e w33 ⟨rfl, hb⟩; refine ⟨_, rfl, ?_⟩; replace BK313 := nk BK313 hb; replace BK314 := nk BK314 hb; replace HB := bs hb; (try clear hb)))
        go_roundg k2
        case measure => have := HJ4.out; have := HK2.out; omega
        case rel => exact ⟨(wrap64 (x10_2 + 1)), (wrap64 (x29_2 + 1)), (rs), (rs), H', ⟨by have := HJ4.out; have := HK2.out; omega⟩, ⟨pk BK313⟩, ⟨pk BK314⟩, ⟨bw⟩⟩
       ·replace c29 := Bool.eq_false_iff.mpr c29
        subst c29
        rw [if_neg (show ¬ (false = true) by decide)] at H
        have H' := Aside0.mk H
        clear H
        have hnb34 := NB313_314.out
        have hnc34 := NB314_313.out
        have hcz35_0 : wr.cell? ⟨gb313, 0, none⟩ = some (.int .i64 a1_0) := ec BK313
        have hcz35_1 : wr.cell? ⟨gb313, 1, none⟩ = some (.bool a1_1) := ec BK313
        have hcz35_2 : wr.cell? ⟨gb313, 2, none⟩ = some (.int .i64 a1_2) := ec BK313
        have hfz35_0 := blk_frozen BK313.out 0
        have hfz35_1 := blk_frozen BK313.out 1
        have hfz35_2 := blk_frozen BK313.out 2
        have hcz36_0 : wr.cell? ⟨gb314, 0, none⟩ = some (.int .i64 a2_0) := ec BK314
        have hcz36_1 : wr.cell? ⟨gb314, 1, none⟩ = some (.bool a2_1) := ec BK314
        have hcz36_2 : wr.cell? ⟨gb314, 2, none⟩ = some (.int .i64 a2_2) := ec BK314
        have hfz36_0 := blk_frozen BK314.out 0
        have hfz36_1 := blk_frozen BK314.out 1
        have hfz36_2 := blk_frozen BK314.out 2
        go_wp2_with (first | ((with_reducible refine gate_callee (f := 40) rfl ?_); refine gl (some 36) Try.func40 #[.int .i64 a0, .agg #[.int .i64 a1_0, .bool a1_1, .int .i64 a1_2], .agg #[.int .i64 a2_0, .bool a2_1, .int .i64 a2_2], .int .i64 x29_2] ?_; (with_reducible refine (impl_meet.calls a0 a1_0 a1_1 a1_2 a2_0 a2_1 a2_2 x29_2 false _ A28.out).mono ?_); rintro e w37 ⟨rfl, hb⟩; refine ⟨_, rfl, ?_⟩; replace BK313 := nk BK313 hb; replace BK314 := nk BK314 hb; replace HB := bs hb; (try clear hb)))
        go_roundg k2
        case measure => have := HJ4.out; have := HK2.out; omega
        case rel => exact ⟨(x10_2), (wrap64 (x29_2 + 1)), (rs), (rs), H', ⟨by have := HJ4.out; have := HK2.out; omega⟩, ⟨pk BK313⟩, ⟨pk BK314⟩, ⟨bw⟩⟩
      ·rw [if_neg c27] at H
       have c27b0 : decide (x29_2 < (wrap64 (a3 + 1))) = false := decide_eq_false c27
       clear c27
       simp only [Option.some.injEq, Prod.mk.injEq] at H
       obtain ⟨rfl, rfl⟩ := H
       go_wp2
       go_ret2
       exact ⟨rs, bw⟩

end Go.Proofs.Ytlhhbkdeginhoaa.PFnSignalsGo
