-- Laid by xprint, a program of this session that runs over the kit's print.
import Derived.Test.YtlhhbkdeginhoaaPFnSignalsGox0
import Derived.Test.YtlhhbkdeginhoaaPFnSignalsGox1
import Derived.Test.YtlhhbkdeginhoaaPFnSignalsGox2
namespace Go.Proofs.Ytlhhbkdeginhoaa.PFnSignalsGo
open Go.RowKit Go.Proofs.YtlhhbkdeginhoaaW.PrintWords Go.Proofs.YtlhhbkdeginhoaaW.PrintLast Go.Proofs.YtlhhbkdeginhoaaW.PrintMore Go.Proofs.Ytlhhbkdeginhoaa.Sq
attribute [local go_sem] max2_int min2_int max_two min_two max_three min_three max_four min_four   -- for this text's walks alone
set_option linter.unusedVariables false
set_option linter.unusedSimpArgs false

/-! ### spec_SignalPeriod: function 9 -/
def spec_SignalPeriod.f (a0 : Int) (a1_0 : Int) (a1_1 : Bool) (a1_2 : Int) : Option (Int × Bool) := (spec_siSignal.f a0 a1_0 a1_1 a1_2).bind fun t202 => (if t202 = true then ((spec_l1Most.f 1 (wrap64 ((wrap64 (2 * (wrap64 (a0 - 1)))) * a1_2))).bind fun t203 => (some (t203, true))) else (some (0, false)))
set_option maxHeartbeats 8000000 in
set_option maxRecDepth 100000 in
theorem spec_SignalPeriod.calls (a0 : Int) (a1_0 : Int) (a1_1 : Bool) (a1_2 : Int) (r1 : Int) (r2 : Bool) (w : World) (h : spec_SignalPeriod.f a0 a1_0 a1_1 a1_2 = some (r1, r2)) :
  Calls Try.prog 9 #[.int .i64 a0, .agg #[.int .i64 a1_0, .bool a1_1, .int .i64 a1_2]] w fun e w' => e = .returned (.tuple #[.int .i64 r1, .bool r2]) ∧ Below w.heap.size w w' := by
 have hu25 := Try.underlying25
 have HB := Aside0.mk (Below.refl w.heap.size w)
 unfold spec_SignalPeriod.f at h
 have H := h
 clear h
 replace H := Option.bind_eq_some_iff.mp H
 obtain ⟨t202, A30, H⟩ := H
 (try dsimp only at H)
 have A3 := Aside0.mk A30
 clear A30
 by_cases c4 : t202 = true
 ·subst c4
  rw [if_pos rfl] at H
  replace H := Option.bind_eq_some_iff.mp H
  obtain ⟨t203, A50, H⟩ := H
  (try dsimp only at H)
  have A5 := Aside0.mk A50
  clear A50
  simp only [Option.some.injEq, Prod.mk.injEq] at H
  obtain ⟨rfl, rfl⟩ := H
  go_enter Try.func9, Try.ntmps9
  go_wp2_with (first | ((with_reducible refine gate_dst (N := 3) rfl ?_); refine bx 3 25 #[.int .i64 a1_0, .bool a1_1, .int .i64 a1_2] ?_; intro gb201 hg w6 hbox hb; have BK201 := hbox; have GW201 := gs hg; have GE201 := gs hg; replace HB := bs hb; clear hb hbox hg; have hcz7_0 := bc BK201 0 (.int .i64 a1_0); have hcz7_1 := bc BK201 1 (.bool a1_1); have hcz7_2 := bc BK201 2 (.int .i64 a1_2); have hfz7_0 := blk_frozen BK201.out 0; have hfz7_1 := blk_frozen BK201.out 1; have hfz7_2 := blk_frozen BK201.out 2) | ((with_reducible refine gate_callee (f := 26) rfl ?_); refine gl (some 8) Try.func26 #[.int .i64 a0, .agg #[.int .i64 a1_0, .bool a1_1, .int .i64 a1_2]] ?_; (with_reducible refine (spec_siSignal.calls a0 a1_0 a1_1 a1_2 true _ A3.out).mono ?_); rintro e w8 ⟨rfl, hb⟩; refine ⟨_, rfl, ?_⟩; replace BK201 := nk BK201 hb; replace HB := bs hb; (try clear hb); have hcz9_0 := bc BK201 0 (.int .i64 a1_0); have hcz9_1 := bc BK201 1 (.bool a1_1); have hcz9_2 := bc BK201 2 (.int .i64 a1_2); have hfz9_0 := blk_frozen BK201.out 0; have hfz9_1 := blk_frozen BK201.out 1; have hfz9_2 := blk_frozen BK201.out 2) | ((with_reducible refine gate_callee (f := 30) rfl ?_); refine gl (some 16) Try.func30 #[.int .i64 1, .int .i64 (wrap64 ((wrap64 (2 * (wrap64 (a0 - 1)))) * a1_2))] ?_; (with_reducible refine (spec_l1Most.calls 1 (wrap64 ((wrap64 (2 * (wrap64 (a0 - 1)))) * a1_2)) t203 _ A5.out).mono ?_); rintro e w' ⟨rfl, ⟨nd, rfl⟩⟩; refine ⟨_, rfl, ?_⟩))
  go_ret2
  exact ⟨rs, bw⟩
 ·replace c4 := Bool.eq_false_iff.mpr c4
  subst c4
  rw [if_neg (show ¬ (false = true) by decide)] at H
  simp only [Option.some.injEq, Prod.mk.injEq] at H
  obtain ⟨rfl, rfl⟩ := H
  go_enter Try.func9, Try.ntmps9
  go_wp2_with (first | ((with_reducible refine gate_dst (N := 3) rfl ?_); refine bx 3 25 #[.int .i64 a1_0, .bool a1_1, .int .i64 a1_2] ?_; intro gb201 hg w10 hbox hb; have BK201 := hbox; have GW201 := gs hg; have GE201 := gs hg; replace HB := bs hb; clear hb hbox hg; have hcz11_0 := bc BK201 0 (.int .i64 a1_0); have hcz11_1 := bc BK201 1 (.bool a1_1); have hcz11_2 := bc BK201 2 (.int .i64 a1_2); have hfz11_0 := blk_frozen BK201.out 0; have hfz11_1 := blk_frozen BK201.out 1; have hfz11_2 := blk_frozen BK201.out 2) | ((with_reducible refine gate_callee (f := 26) rfl ?_); refine gl (some 8) Try.func26 #[.int .i64 a0, .agg #[.int .i64 a1_0, .bool a1_1, .int .i64 a1_2]] ?_; (with_reducible refine (spec_siSignal.calls a0 a1_0 a1_1 a1_2 false _ A3.out).mono ?_); rintro e w12 ⟨rfl, hb⟩; refine ⟨_, rfl, ?_⟩; replace BK201 := nk BK201 hb; replace HB := bs hb; (try clear hb)))
  go_ret2
  exact ⟨rs, bw⟩

/-! ### spec_DrawTimesAt: function 10 -/
def spec_DrawTimesAt.f (l0 : List Int) : Option (Int × Int × Bool × Int × Int × Int) := (spec_l1Cur_signal.f l0 0 0).bind fun bt206 => ((spec_l1Most.f 1 bt206.1).bind fun t213 => ((spec_l1Least.f 100 t213).bind fun t214 => ((spec_l1Cur_pick.f l0 bt206.2.2.2.2.1 bt206.2.2.2.2.2 (wrap64 (t214 + 1))).bind fun bt215 => ((spec_l1Cur_pick.f l0 bt215.2.1 bt215.2.2 9).bind fun bt218 => ((spec_l1Cur_among.f l0 bt218.2.1 bt218.2.2 (([0, 1, 5, 20, 60, 1000, 1001, (-1)] : List Int))).bind fun bt224 => (some (bt206.1, bt206.2.1, bt206.2.2.1, bt206.2.2.2.1, wrap64 (bt215.1 - (wrap64 (Int.tdiv bt218.1 8))), bt224.1)))))))
def spec_DrawTimesAt.T3 : Bool × List (List Nat × List Nat) := (true, [([], []), ([], []), ([], []), ([], []), ([3], [3]), ([4, 4], [4]), ([5], [5]), ([2, 6, 5], [2, 6]), ([], []), ([8, 7], [8]), ([9], [9]), ([7, 10], [7, 10]), ([], []), ([], []), ([12, 13, 9], [12, 13]), ([0, 14, 0], [0]), ([1, 15, 0, 1, 15], [1]), ([11, 16, 0, 1, 2, 3, 4, 5, 6, 7, 8, 9, 10, 11, 15, 16], [11]), ([14, 17, 0, 1, 2, 3, 4, 5, 6, 7, 8, 9, 10, 11, 12, 13, 14, 15, 16, 17], [14])])
def spec_DrawTimesAt.B3 : List Nat := [0, 0, 0, 0, 8, 24, 56, 124, 0, 508, 1020, 2044, 0, 0, 13308, 29693, 62463, 131071, 262143]
theorem spec_DrawTimesAt.tab3 : rtab .any (opsOf Try.f10 3) = spec_DrawTimesAt.T3 := by kernel_rfl
theorem spec_DrawTimesAt.bits3 : waitsOk spec_DrawTimesAt.T3.2 spec_DrawTimesAt.B3 = true := by kernel_rfl
set_option maxHeartbeats 8000000 in
set_option maxRecDepth 100000 in
theorem spec_DrawTimesAt.calls (A0 : Option Addr) (c0 : Nat) (l0 : List Int) (r1 : Int) (r2 : Int) (r3 : Bool) (r4 : Int) (r5 : Int) (r6 : Int) (w : World) (hr0 : Kd.C (Kd.int .u8) w A0 l0.length l0) (hc0 : l0.length ≤ c0) (h : spec_DrawTimesAt.f l0 = some (r1, r2, r3, r4, r5, r6)) :
  Calls Try.prog 10 #[.slice A0 l0.length c0] w fun e w' => e = .returned (.tuple #[.int .i64 r1, .agg #[.int .i64 r2, .bool r3, .int .i64 r4], .int .i64 r5, .int .i64 r6]) ∧ Below w.heap.size w w' := by
 have hu25 := Try.underlying25
 have hu48 := Try.underlying48
 have HR0 := Aside0.mk hr0
 have HC0 := Aside0.mk hc0
 clear hr0 hc0
 have HB := Aside0.mk (Below.refl w.heap.size w)
 unfold spec_DrawTimesAt.f at h
 have H := h
 clear h
 replace H := Option.bind_eq_some_iff.mp H
 obtain ⟨⟨t206, t207, t208, t209, t210, t211⟩, A20, H⟩ := H
 (try dsimp only at H)
 have A2 := Aside0.mk A20
 clear A20
 replace H := Option.bind_eq_some_iff.mp H
 obtain ⟨t213, A30, H⟩ := H
 (try dsimp only at H)
 have A3 := Aside0.mk A30
 clear A30
 replace H := Option.bind_eq_some_iff.mp H
 obtain ⟨t214, A40, H⟩ := H
 (try dsimp only at H)
 have A4 := Aside0.mk A40
 clear A40
 replace H := Option.bind_eq_some_iff.mp H
 obtain ⟨⟨t215, t216, t217⟩, A50, H⟩ := H
 (try dsimp only at H)
 have A5 := Aside0.mk A50
 clear A50
 replace H := Option.bind_eq_some_iff.mp H
 obtain ⟨⟨t218, t219, t220⟩, A60, H⟩ := H
 (try dsimp only at H)
 have A6 := Aside0.mk A60
 clear A60
 obtain ⟨y221, hy221⟩ : ∃ y_ : List Int, y_ = (([0, 1, 5, 20, 60, 1000, 1001, (-1)] : List Int)) := ⟨_, rfl⟩
 replace H : ((spec_l1Cur_among.f l0 t219 t220 y221).bind fun bt224 => (some (t206, t207, t208, t209, wrap64 (t215 - (wrap64 (Int.tdiv t218 8))), bt224.1))) = some (r1, r2, r3, r4, r5, r6) := by first | (rw [hy221]; with_reducible exact H) | (have H2_ := (Option.bind_some _ _).symm.trans H; rw [hy221]; with_reducible exact H2_) | (have H2_ := (Option.bind_some _ _).symm.trans H; with_reducible exact H2_) | with_reducible exact H | (rw [hy221]; exact H) | exact H
 have Ny221 := Aside0.mk hy221
 clear hy221
 replace H := Option.bind_eq_some_iff.mp H
 obtain ⟨⟨t224, t225, t226⟩, A70, H⟩ := H
 (try dsimp only at H)
 have A7 := Aside0.mk A70
 clear A70
 simp only [Option.some.injEq, Prod.mk.injEq] at H
 obtain ⟨rfl, rfl, rfl, rfl, rfl, rfl⟩ := H
 go_enter Try.func10, Try.ntmps10
 try go_wp2_with (first | ((with_reducible refine gate_dst (N := 3) rfl ?_); refine bx 3 25 #[.int .i64 0, .bool false, .int .i64 0] ?_; intro gb204 hg w8 hbox hb; have BK204 := hbox; have GW204 := gs hg; have GE204 := gs hg; replace HB := bs hb; clear hb hbox hg) | ((with_reducible refine gate_dst (N := 11) rfl ?_); refine box_event ?hg (N := 11) ?hd (cs := #[.slice A0 l0.length c0, .int .i64 0, .int .u64 0]) (t := 48) ?hr ?_; (case hd => rfl); (case hg => rfl); (case hr => first | (go_simp; done) | (go_simp; rfl)); intro gb205 hg w9 hbox hb; have GW205 := gs hg; have GE205 := gs hg; have NB204_205 := nl BK204 hg; have NB205_204 := ng BK204 hg; replace BK204 := nk BK204 hb; have HI205 := Aside0.mk ((show IsS48 w _ gb205 l0 0 0 from ⟨_, _, hbox, (by rw [hg]; exact (below_size bw)), HR0.out⟩)); replace HB := bs hb; clear hb hbox hg) | ((with_reducible refine gate_callee (f := 21) rfl ?_); refine gl (some 14) Try.func21 #[.pointer (some ⟨gb205, 0, none⟩)] ?_; (with_reducible refine (spec_l1Cur_signal.calls gb205 l0 0 0 t206 t207 t208 t209 t210 t211 w _ ?side1 ?side2 A2.out).mono ?_); (case side1 => repeat (first | (with_reducible first | exact HI205.out | apply IsS48.alloc | apply IsS48.drewN | apply IsS48.drew | apply IsS48.set_1 | apply IsS48.set_2 | refine IsS48.far ?_ NB205_204.out _) | exact HI205.out)); (case side2 => repeat (first | (with_reducible first | exact HB.out | apply below_alloc | apply pw_below_drewN | apply below_drew1 | refine below_set ?_ (IsS48.ge HI205.out) | refine below_set ?_ GE204.out) | exact HB.out)); rintro e w10 ⟨rfl, hi, hb, hk⟩; refine ⟨_, rfl, ?_⟩; replace BK204 := Aside0.mk (KeepBut.blk hk (g' := gb204) (o := .cells #[.int .i64 0, .bool false, .int .i64 0] 25 (0, 0)) (pk BK204) NB204_205.out (by simp)); replace HB := Aside0.mk (hb); replace HI205 := Aside0.mk (hi); (try clear hb)) | ((with_reducible refine gate_dst (N := 8) rfl ?_); refine bx 8 25 #[.int .i64 0, .bool false, .int .i64 0] ?_; intro gb212 hg w11 hbox hb; have BK212 := hbox; have GW212 := Aside0.mk ((by rw [hg]; exact (below_size (by repeat (first | (with_reducible first | exact HB.out | apply below_alloc | apply pw_below_drewN | apply below_drew1 | refine below_set ?_ (IsS48.ge HI205.out) | refine below_set ?_ GE204.out) | exact HB.out))) : w.heap.size ≤ gb212)); have GE212 := Aside0.mk ((by rw [hg]; exact (below_size (by repeat (first | (with_reducible first | exact HB.out | apply below_alloc | apply pw_below_drewN | apply below_drew1 | refine below_set ?_ (IsS48.ge HI205.out) | refine below_set ?_ GE204.out) | exact HB.out))) : w.heap.size ≤ gb212)); replace HB := Aside0.mk (below_step (by repeat (first | (with_reducible first | exact HB.out | apply below_alloc | apply pw_below_drewN | apply below_drew1 | refine below_set ?_ (IsS48.ge HI205.out) | refine below_set ?_ GE204.out) | exact HB.out)) hb); have NB204_212 := nl BK204 hg; have NB212_204 := ng BK204 hg; replace BK204 := nk BK204 hb; have NB205_212 := Aside0.mk ((by rw [hg]; exact Nat.ne_of_lt (IsS48.lt (show IsS48 w _ gb205 l0 t210 t211 from by repeat (first | (with_reducible first | exact HI205.out | apply IsS48.alloc | apply IsS48.drewN | apply IsS48.drew | apply IsS48.set_1 | apply IsS48.set_2 | refine IsS48.far ?_ NB205_204.out _) | exact HI205.out))) : gb205 ≠ gb212)); have NB212_205 := Aside0.mk ((by rw [hg]; exact Nat.ne_of_gt (IsS48.lt (show IsS48 w _ gb205 l0 t210 t211 from by repeat (first | (with_reducible first | exact HI205.out | apply IsS48.alloc | apply IsS48.drewN | apply IsS48.drew | apply IsS48.set_1 | apply IsS48.set_2 | refine IsS48.far ?_ NB205_204.out _) | exact HI205.out))) : gb212 ≠ gb205)); replace HI205 := Aside0.mk (IsS48.below (by repeat (first | (with_reducible first | exact HI205.out | apply IsS48.alloc | apply IsS48.drewN | apply IsS48.drew | apply IsS48.set_1 | apply IsS48.set_2 | refine IsS48.far ?_ NB205_204.out _) | exact HI205.out)) hb); clear hb hbox hg; have hnb12 := NB212_204.out; have hnc12 := NB204_212.out; have hnb13 := NB212_205.out; have hnc13 := NB205_212.out; have hcz14_0 := bc BK212 0 (.int .i64 0); have hcz14_1 := bc BK212 1 (.bool false); have hcz14_2 := bc BK212 2 (.int .i64 0); have hfz14_0 := blk_frozen BK212.out 0; have hfz14_1 := blk_frozen BK212.out 1; have hfz14_2 := blk_frozen BK212.out 2))
 have n0_ : Aside0 ((((w11.setCell ⟨gb212, 0, none⟩ (.int .i64 t207)).setCell ⟨gb212, 1, none⟩ (.bool t208)).setCell ⟨gb212, 2, none⟩ (.int .i64 t209)).heap[gb204]? = some (.cells #[.int .i64 0, .bool false, .int .i64 0] 25 (0, 0))) := ⟨by (with_reducible repeat (first | refine blk_drewN ?_ _ | refine blk_drew ?_ | refine blk_alloc ?_ _)); refine blk_far ?_ NB204_212.out _; (with_reducible repeat (first | refine blk_drewN ?_ _ | refine blk_drew ?_ | refine blk_alloc ?_ _)); refine blk_far ?_ NB204_212.out _; (with_reducible repeat (first | refine blk_drewN ?_ _ | refine blk_drew ?_ | refine blk_alloc ?_ _)); refine blk_far ?_ NB204_212.out _; (with_reducible repeat (first | refine blk_drewN ?_ _ | refine blk_drew ?_ | refine blk_alloc ?_ _)); exact BK204.out⟩
 have n1_ : Aside0 ((((w11.setCell ⟨gb212, 0, none⟩ (.int .i64 t207)).setCell ⟨gb212, 1, none⟩ (.bool t208)).setCell ⟨gb212, 2, none⟩ (.int .i64 t209)).heap[gb212]? = some (.cells #[.int .i64 t207, .bool t208, .int .i64 t209] 25 (0, 0))) := ⟨by (with_reducible repeat (first | refine blk_drewN ?_ _ | refine blk_drew ?_ | refine blk_alloc ?_ _)); refine blk_put (cs := #[.int .i64 t207, .bool t208, .int .i64 0]) ?_ 2 _ rfl; (with_reducible repeat (first | refine blk_drewN ?_ _ | refine blk_drew ?_ | refine blk_alloc ?_ _)); refine blk_put (cs := #[.int .i64 t207, .bool false, .int .i64 0]) ?_ 1 _ rfl; (with_reducible repeat (first | refine blk_drewN ?_ _ | refine blk_drew ?_ | refine blk_alloc ?_ _)); refine blk_put (cs := #[.int .i64 0, .bool false, .int .i64 0]) ?_ 0 _ rfl; (with_reducible repeat (first | refine blk_drewN ?_ _ | refine blk_drew ?_ | refine blk_alloc ?_ _)); exact BK212.out⟩
 have n2_ : Aside0 (IsS48 w (((w11.setCell ⟨gb212, 0, none⟩ (.int .i64 t207)).setCell ⟨gb212, 1, none⟩ (.bool t208)).setCell ⟨gb212, 2, none⟩ (.int .i64 t209)) gb205 l0 t210 t211) := ⟨by repeat (first | (with_reducible first | exact HI205.out | apply IsS48.alloc | apply IsS48.drewN | apply IsS48.drew | apply IsS48.set_1 | apply IsS48.set_2 | refine IsS48.far ?_ NB205_204.out _ | refine IsS48.far ?_ NB205_212.out _) | exact HI205.out)⟩
 have n3_ : Aside0 (Below w.heap.size w (((w11.setCell ⟨gb212, 0, none⟩ (.int .i64 t207)).setCell ⟨gb212, 1, none⟩ (.bool t208)).setCell ⟨gb212, 2, none⟩ (.int .i64 t209))) := ⟨by repeat (first | (with_reducible first | exact HB.out | apply below_alloc | apply pw_below_drewN | apply below_drew1 | refine below_set ?_ (IsS48.ge HI205.out) | refine below_set ?_ GE204.out | refine below_set ?_ GE212.out) | exact HB.out)⟩
 (try clear BK204)
 (try clear BK212)
 (try clear HI205)
 (try clear HB)
 generalize (((w11.setCell ⟨gb212, 0, none⟩ (.int .i64 t207)).setCell ⟨gb212, 1, none⟩ (.bool t208)).setCell ⟨gb212, 2, none⟩ (.int .i64 t209)) = w15 at n0_ n1_ n2_ n3_ ⊢
 have BK204 := n0_
 have BK212 := n1_
 have HI205 := n2_
 have HB := n3_
 clear n0_ n1_ n2_ n3_
 replace BK204 := Aside0.mk (blk_drew BK204.out)
 replace BK212 := Aside0.mk (blk_drew BK212.out)
 replace HI205 := Aside0.mk (IsS48.drew HI205.out)
 replace HB := Aside0.mk (below_drew1 HB.out)
 refine start_ (n := 19) (S := fun w' => w'.cell? ⟨gb212, 0, none⟩ = some (.int .i64 t207) ∧ w'.cell? ⟨gb212, 1, none⟩ = some (.bool t208) ∧ w'.cell? ⟨gb212, 2, none⟩ = some (.int .i64 t209)) (ds := []) #[false, false, false, false, false, false, false, false, false, false, false, false, false, false, false, false, false, false, false] (by kernel_rfl) rfl rfl ⟨ec BK212, ec BK212, ec BK212⟩ (fun hHeld => ?_); refine with_tabW spec_DrawTimesAt.tab3 spec_DrawTimesAt.bits3 (fun HT_ HW_ => ?_)
 generalize w15.drew = w16 at BK204 BK212 HI205 HB hHeld ⊢
 refine pu 0 (some 17) #[true, false, false, false, false, false, false, false, false, false, false, false, false, false, false, false, false, false, false] ?_
 refine pu 2 (some 19) #[true, false, true, false, false, false, false, false, false, false, false, false, false, false, false, false, false, false, false] ?_
 refine pu 3 (some 20) #[true, false, true, true, false, false, false, false, false, false, false, false, false, false, false, false, false, false, false] ?_
 refine pu 8 (some 25) #[true, false, true, true, false, false, false, false, true, false, false, false, false, false, false, false, false, false, false] ?_
 refine pu 12 (some 29) #[true, false, true, true, false, false, false, false, true, false, false, false, true, false, false, false, false, false, false] ?_
 refine take_ (i := 1) (N := some 18) (v := ?_) (a' := ?_) #[true, true, true, true, false, false, false, false, true, false, false, false, true, false, false, false, false, false, false] rfl rfl (take_ofW HT_.out HW_.out (by kernel_rfl)) (fun _ _ _ h => h) (Or.inl ⟨by rfl, ?_⟩) hHeld ?_ ?_
 rotate_left
 ·rintro w' ⟨s0, s1, s2⟩
  go_simp
  with_reducible rfl
 rotate_left
 ·simp only [Act.put, List.setIfInBounds_toArray, List.set_cons_zero, List.set_cons_succ, i64_w, i32_w]
  rfl
 refine join_ (σ := Value) 5 #[true, true, true, true, true, true, true, true, true, true, true, true, true, true, false, false, false, false, false] (fun s_ => [(21, .int .i64 t213), (22, .int .i64 t214), (24, .int .i64 t215), (26, .int .i64 t218), (30, s_), (23, .int .i64 (wrap64 (t214 + 1))), (27, .int .i64 (wrap64 (Int.tdiv t218 8))), (28, .int .i64 (wrap64 (t215 - (wrap64 (Int.tdiv t218 8)))))]) (fun s_ w' => (w'.cell? ⟨gb212, 0, none⟩ = some (.int .i64 t207) ∧ w'.cell? ⟨gb212, 1, none⟩ = some (.bool t208) ∧ w'.cell? ⟨gb212, 2, none⟩ = some (.int .i64 t209)) ∧ (Kd.R (Kd.int .i64) 3 w' w.heap.size (fun _ => True) s_ y221) ∧ (w'.heap[gb204]? = some (.cells #[.int .i64 0, .bool false, .int .i64 0] 25 (0, 0))) ∧ (w'.heap[gb212]? = some (.cells #[.int .i64 t207, .bool t208, .int .i64 t209] 25 (0, 0))) ∧ (IsS48 w w' gb205 l0 t219 t220) ∧ (Below w.heap.size w w')) ?_ ?_
 rotate_left
 ·intro hJ4_5_7_9_13
  refine join_ (σ := Unit) 6 #[true, true, true, true, true, true, true, true, true, true, true, true, true, false, false, false, false, false, false] (fun s_ => [(21, .int .i64 t213), (22, .int .i64 t214), (24, .int .i64 t215), (26, .int .i64 t218), (23, .int .i64 (wrap64 (t214 + 1))), (27, .int .i64 (wrap64 (Int.tdiv t218 8))), (28, .int .i64 (wrap64 (t215 - (wrap64 (Int.tdiv t218 8)))))]) (fun s_ w' => (w'.cell? ⟨gb212, 0, none⟩ = some (.int .i64 t207) ∧ w'.cell? ⟨gb212, 1, none⟩ = some (.bool t208) ∧ w'.cell? ⟨gb212, 2, none⟩ = some (.int .i64 t209)) ∧ (w'.heap[gb204]? = some (.cells #[.int .i64 0, .bool false, .int .i64 0] 25 (0, 0))) ∧ (w'.heap[gb212]? = some (.cells #[.int .i64 t207, .bool t208, .int .i64 t209] 25 (0, 0))) ∧ (IsS48 w w' gb205 l0 t219 t220) ∧ (Below w.heap.size w w')) ?_ ?_
  rotate_left
  ·intro hJ4_5_7_9
   refine join_ (σ := Value) 8 #[true, true, true, true, true, true, true, true, true, false, false, false, true, true, false, false, false, false, false] (fun s_ => [(21, .int .i64 t213), (22, .int .i64 t214), (24, .int .i64 t215), (30, s_), (23, .int .i64 (wrap64 (t214 + 1)))]) (fun s_ w' => (w'.cell? ⟨gb212, 0, none⟩ = some (.int .i64 t207) ∧ w'.cell? ⟨gb212, 1, none⟩ = some (.bool t208) ∧ w'.cell? ⟨gb212, 2, none⟩ = some (.int .i64 t209)) ∧ (Kd.R (Kd.int .i64) 3 w' w.heap.size (fun _ => True) s_ y221) ∧ (w'.heap[gb204]? = some (.cells #[.int .i64 0, .bool false, .int .i64 0] 25 (0, 0))) ∧ (w'.heap[gb212]? = some (.cells #[.int .i64 t207, .bool t208, .int .i64 t209] 25 (0, 0))) ∧ (IsS48 w w' gb205 l0 t216 t217) ∧ (Below w.heap.size w w')) ?_ ?_
   rotate_left
   ·intro hJ4_5_7_13
    refine join_ (σ := Unit) 9 #[true, true, true, true, true, true, true, true, true, false, false, false, true, false, false, false, false, false, false] (fun s_ => [(21, .int .i64 t213), (22, .int .i64 t214), (24, .int .i64 t215), (23, .int .i64 (wrap64 (t214 + 1)))]) (fun s_ w' => (w'.cell? ⟨gb212, 0, none⟩ = some (.int .i64 t207) ∧ w'.cell? ⟨gb212, 1, none⟩ = some (.bool t208) ∧ w'.cell? ⟨gb212, 2, none⟩ = some (.int .i64 t209)) ∧ (w'.heap[gb204]? = some (.cells #[.int .i64 0, .bool false, .int .i64 0] 25 (0, 0))) ∧ (w'.heap[gb212]? = some (.cells #[.int .i64 t207, .bool t208, .int .i64 t209] 25 (0, 0))) ∧ (IsS48 w w' gb205 l0 t216 t217) ∧ (Below w.heap.size w w')) ?_ ?_
    rotate_left
    ·intro hJ4_5_7
     refine join_ (σ := Value) 9 #[true, true, true, true, true, true, true, false, true, false, false, false, true, true, false, false, false, false, false] (fun s_ => [(21, .int .i64 t213), (22, .int .i64 t214), (30, s_), (23, .int .i64 (wrap64 (t214 + 1)))]) (fun s_ w' => (w'.cell? ⟨gb212, 0, none⟩ = some (.int .i64 t207) ∧ w'.cell? ⟨gb212, 1, none⟩ = some (.bool t208) ∧ w'.cell? ⟨gb212, 2, none⟩ = some (.int .i64 t209)) ∧ (Kd.R (Kd.int .i64) 3 w' w.heap.size (fun _ => True) s_ y221) ∧ (w'.heap[gb204]? = some (.cells #[.int .i64 0, .bool false, .int .i64 0] 25 (0, 0))) ∧ (w'.heap[gb212]? = some (.cells #[.int .i64 t207, .bool t208, .int .i64 t209] 25 (0, 0))) ∧ (IsS48 w w' gb205 l0 t210 t211) ∧ (Below w.heap.size w w')) ?_ ?_
     rotate_left
     ·intro hJ4_5_13
      refine join_ (σ := Unit) 10 #[true, true, true, true, true, true, true, false, true, false, false, false, true, false, false, false, false, false, false] (fun s_ => [(21, .int .i64 t213), (22, .int .i64 t214), (23, .int .i64 (wrap64 (t214 + 1)))]) (fun s_ w' => (w'.cell? ⟨gb212, 0, none⟩ = some (.int .i64 t207) ∧ w'.cell? ⟨gb212, 1, none⟩ = some (.bool t208) ∧ w'.cell? ⟨gb212, 2, none⟩ = some (.int .i64 t209)) ∧ (w'.heap[gb204]? = some (.cells #[.int .i64 0, .bool false, .int .i64 0] 25 (0, 0))) ∧ (w'.heap[gb212]? = some (.cells #[.int .i64 t207, .bool t208, .int .i64 t209] 25 (0, 0))) ∧ (IsS48 w w' gb205 l0 t210 t211) ∧ (Below w.heap.size w w')) ?_ ?_
      rotate_left
      ·intro hJ4_5
       refine join_ (σ := Value) 11 #[true, true, true, true, true, false, false, false, true, false, false, false, true, true, false, false, false, false, false] (fun s_ => [(21, .int .i64 t213), (30, s_)]) (fun s_ w' => (w'.cell? ⟨gb212, 0, none⟩ = some (.int .i64 t207) ∧ w'.cell? ⟨gb212, 1, none⟩ = some (.bool t208) ∧ w'.cell? ⟨gb212, 2, none⟩ = some (.int .i64 t209)) ∧ (Kd.R (Kd.int .i64) 3 w' w.heap.size (fun _ => True) s_ y221) ∧ (w'.heap[gb204]? = some (.cells #[.int .i64 0, .bool false, .int .i64 0] 25 (0, 0))) ∧ (w'.heap[gb212]? = some (.cells #[.int .i64 t207, .bool t208, .int .i64 t209] 25 (0, 0))) ∧ (IsS48 w w' gb205 l0 t210 t211) ∧ (Below w.heap.size w w')) ?_ ?_
       rotate_left
       ·intro hJ4_13
        refine join_ (σ := Unit) 12 #[true, true, true, true, true, false, false, false, true, false, false, false, true, false, false, false, false, false, false] (fun s_ => [(21, .int .i64 t213)]) (fun s_ w' => (w'.cell? ⟨gb212, 0, none⟩ = some (.int .i64 t207) ∧ w'.cell? ⟨gb212, 1, none⟩ = some (.bool t208) ∧ w'.cell? ⟨gb212, 2, none⟩ = some (.int .i64 t209)) ∧ (w'.heap[gb204]? = some (.cells #[.int .i64 0, .bool false, .int .i64 0] 25 (0, 0))) ∧ (w'.heap[gb212]? = some (.cells #[.int .i64 t207, .bool t208, .int .i64 t209] 25 (0, 0))) ∧ (IsS48 w w' gb205 l0 t210 t211) ∧ (Below w.heap.size w w')) ?_ ?_
        rotate_left
        ·intro hJ4
         refine join_ (σ := Value) 12 #[true, true, true, true, false, false, false, false, true, false, false, false, true, true, false, false, false, false, false] (fun s_ => [(30, s_)]) (fun s_ w' => (w'.cell? ⟨gb212, 0, none⟩ = some (.int .i64 t207) ∧ w'.cell? ⟨gb212, 1, none⟩ = some (.bool t208) ∧ w'.cell? ⟨gb212, 2, none⟩ = some (.int .i64 t209)) ∧ (Kd.R (Kd.int .i64) 3 w' w.heap.size (fun _ => True) s_ y221) ∧ (w'.heap[gb204]? = some (.cells #[.int .i64 0, .bool false, .int .i64 0] 25 (0, 0))) ∧ (w'.heap[gb212]? = some (.cells #[.int .i64 t207, .bool t208, .int .i64 t209] 25 (0, 0))) ∧ (IsS48 w w' gb205 l0 t210 t211) ∧ (Below w.heap.size w w')) ?_ ?_
         rotate_left
         ·intro hJ13
          refine two_ (i := 4) (j := 13) (Ni := some 21) (Nj := some 30) #[true, true, true, true, true, false, false, false, true, false, false, false, true, false, false, false, false, false, false] #[true, true, true, true, false, false, false, false, true, false, false, false, true, true, false, false, false, false, false] rfl rfl rfl rfl (two_of HT_.out (by kernel_rfl)) (by decide) (by decide) (fun K hK => ?_) (fun K hK => ?_)
          ·skip
           refine goes_ Try.func30 (by kernel_rfl) rfl #[.int .i64 1, .int .i64 t206] (by rfl) rfl rfl (by (try simp only [List.map_toArray, List.map_cons, List.map_nil]); first | done | rfl | (simp only [List.length_drop, List.length_take]; rfl)) ?_
           with_reducible refine (spec_l1Most.calls 1 t206 t213 _ A3.out).mono ?_
           rintro e w' ⟨rfl, ⟨nd, rfl⟩⟩
           refine ⟨_, rfl, ?_⟩
           refine hK.out _ _ ⟨ec BK212, ec BK212, ec BK212⟩ (fun hHeld => ?_)
           clear hK K
           refine nm (some 21) ?_
           exact norm_ (by first | (simp only [putAll, Act.put, List.setIfInBounds_toArray, List.set_cons_zero, List.set_cons_succ]; done) | (simp only [putAll, Act.put, List.setIfInBounds_toArray, List.set_cons_zero, List.set_cons_succ]; rfl)) (hJ4 () _ ⟨hHeld, (pk BK204), (pk BK212), (by repeat (first | (with_reducible first | exact HI205.out | apply IsS48.alloc | apply IsS48.drewN | apply IsS48.drew | apply IsS48.set_1 | apply IsS48.set_2 | refine IsS48.far ?_ NB205_204.out _ | refine IsS48.far ?_ NB205_212.out _) | exact HI205.out)), (by repeat (first | (with_reducible first | exact HB.out | apply below_alloc | apply pw_below_drewN | apply below_drew1 | refine below_set ?_ (IsS48.ge HI205.out) | refine below_set ?_ GE204.out | refine below_set ?_ GE212.out) | exact HB.out))⟩)
          ·skip
           refine Kd.R_lit_step (Kd.int .i64) _ 3 ?hg (N := 30) ?hd (xs := ([0, 1, 5, 20, 60, 1000, 1001, (-1)] : List Int)) (inner := [.int .i64 0, .int .i64 1, .int .i64 5, .int .i64 20, .int .i64 60, .int .i64 1000, .int .i64 1001, .int .i64 (-1)]) (ok := fun _ => True) (okp := fun _ => True) ?hr ?hp (fun _ hk => hk) trivial (Below.refl _ _) (Nat.le_refl _) (by simp) ?_; (case hd => rfl); (case hg => rfl); (case hr => first | (go_simp; done) | (go_simp; rfl)); (case hp => exact (Reps.one (show Kd.M (Kd.int .i64) _ _ _ 0 [.int .i64 0] from rfl) (Reps.one (show Kd.M (Kd.int .i64) _ _ _ 1 [.int .i64 1] from rfl) (Reps.one (show Kd.M (Kd.int .i64) _ _ _ 5 [.int .i64 5] from rfl) (Reps.one (show Kd.M (Kd.int .i64) _ _ _ 20 [.int .i64 20] from rfl) (Reps.one (show Kd.M (Kd.int .i64) _ _ _ 60 [.int .i64 60] from rfl) (Reps.one (show Kd.M (Kd.int .i64) _ _ _ 1000 [.int .i64 1000] from rfl) (Reps.one (show Kd.M (Kd.int .i64) _ _ _ 1001 [.int .i64 1001] from rfl) (Reps.one (show Kd.M (Kd.int .i64) _ _ _ (-1) [.int .i64 (-1)] from rfl) (Reps.none _ _))))))))))
           intro v222 w17 ho18 hb hg_ hnew_
           clear hg_ hnew_
           (first | rw [← Ny221.out] at ho18 | (simp only [Int.reduceToNat] at ho18; rw [← Ny221.out] at ho18))
           have HO223 := Aside0.mk (Kd.R_lower ho18 (below_size (by repeat (first | (with_reducible first | exact HB.out | apply below_alloc | apply pw_below_drewN | apply below_drew1 | refine below_set ?_ (IsS48.ge HI205.out) | refine below_set ?_ GE204.out | refine below_set ?_ GE212.out) | exact HB.out))))
           replace BK204 := nk BK204 hb
           replace BK212 := nk BK212 hb
           replace HB := Aside0.mk (below_step (by repeat (first | (with_reducible first | exact HB.out | apply below_alloc | apply pw_below_drewN | apply below_drew1 | refine below_set ?_ (IsS48.ge HI205.out) | refine below_set ?_ GE204.out | refine below_set ?_ GE212.out) | exact HB.out)) hb)
           replace HI205 := Aside0.mk (IsS48.below (by repeat (first | (with_reducible first | exact HI205.out | apply IsS48.alloc | apply IsS48.drewN | apply IsS48.drew | apply IsS48.set_1 | apply IsS48.set_2 | refine IsS48.far ?_ NB205_204.out _ | refine IsS48.far ?_ NB205_212.out _) | exact HI205.out)) hb)
           clear hb ho18
           refine hK.out _ _ ⟨ec BK212, ec BK212, ec BK212⟩ (fun hHeld => ?_)
           clear hK K
           refine nm (some 30) ?_
           exact norm_ (by first | (simp only [putAll, Act.put, List.setIfInBounds_toArray, List.set_cons_zero, List.set_cons_succ]; done) | (simp only [putAll, Act.put, List.setIfInBounds_toArray, List.set_cons_zero, List.set_cons_succ]; rfl)) (hJ13 (v222) _ ⟨hHeld, (pr HO223), (pk BK204), (pk BK212), (by repeat (first | (with_reducible first | exact HI205.out | apply IsS48.alloc | apply IsS48.drewN | apply IsS48.drew | apply IsS48.set_1 | apply IsS48.set_2 | refine IsS48.far ?_ NB205_204.out _ | refine IsS48.far ?_ NB205_212.out _) | exact HI205.out)), (by repeat (first | (with_reducible first | exact HB.out | apply below_alloc | apply pw_below_drewN | apply below_drew1 | refine below_set ?_ (IsS48.ge HI205.out) | refine below_set ?_ GE204.out | refine below_set ?_ GE212.out) | exact HB.out))⟩)
         ·skip
          rintro v222 w19 ⟨hS_, h0_, h1_, h2_, h3_, h4_⟩
          have n0_ : Aside0 (Kd.R (Kd.int .i64) 3 w19 w.heap.size (fun _ => True) v222 y221) := ⟨h0_⟩
          have n1_ : Aside0 (w19.heap[gb204]? = some (.cells #[.int .i64 0, .bool false, .int .i64 0] 25 (0, 0))) := ⟨h1_⟩
          have n2_ : Aside0 (w19.heap[gb212]? = some (.cells #[.int .i64 t207, .bool t208, .int .i64 t209] 25 (0, 0))) := ⟨h2_⟩
          have n3_ : Aside0 (IsS48 w w19 gb205 l0 t210 t211) := ⟨h3_⟩
          have n4_ : Aside0 (Below w.heap.size w w19) := ⟨h4_⟩
          clear BK204
          clear BK212
          clear HI205
          clear HB
          clear h0_ h1_ h2_ h3_ h4_
          have HO223 := n0_
          have BK204 := n1_
          have BK212 := n2_
          have HI205 := n3_
          have HB := n4_
          clear n0_ n1_ n2_ n3_ n4_
          have hHeld : w19.cell? ⟨gb212, 0, none⟩ = some (.int .i64 t207) ∧ w19.cell? ⟨gb212, 1, none⟩ = some (.bool t208) ∧ w19.cell? ⟨gb212, 2, none⟩ = some (.int .i64 t209) := hS_
          refine norm_ (a' := ?_) ?_ ?_
          rotate_left
          ·simp only [putAll, Act.put, List.setIfInBounds_toArray, List.set_cons_zero, List.set_cons_succ]
           rfl
          refine one_ (i := 4) (N := some 21) #[true, true, true, true, true, false, false, false, true, false, false, false, true, true, false, false, false, false, false] rfl rfl (one_of HT_.out (by kernel_rfl)) (by decide) (fun K hK => ?_)
          refine goes_ Try.func30 (by kernel_rfl) rfl #[.int .i64 1, .int .i64 t206] (by rfl) rfl rfl (by (try simp only [List.map_toArray, List.map_cons, List.map_nil]); first | done | rfl | (simp only [List.length_drop, List.length_take]; rfl)) ?_
          with_reducible refine (spec_l1Most.calls 1 t206 t213 _ A3.out).mono ?_
          rintro e w' ⟨rfl, ⟨nd, rfl⟩⟩
          refine ⟨_, rfl, ?_⟩
          refine hK.out _ _ ⟨ec BK212, ec BK212, ec BK212⟩ (fun hHeld => ?_)
          clear hK K
          refine nm (some 21) ?_
          exact norm_ (by first | (simp only [putAll, Act.put, List.setIfInBounds_toArray, List.set_cons_zero, List.set_cons_succ]; done) | (simp only [putAll, Act.put, List.setIfInBounds_toArray, List.set_cons_zero, List.set_cons_succ]; rfl)) (hJ4_13 (v222) _ ⟨hHeld, (pr HO223), (pk BK204), (pk BK212), (by repeat (first | (with_reducible first | exact HI205.out | apply IsS48.alloc | apply IsS48.drewN | apply IsS48.drew | apply IsS48.set_1 | apply IsS48.set_2 | refine IsS48.far ?_ NB205_204.out _ | refine IsS48.far ?_ NB205_212.out _) | exact HI205.out)), (by repeat (first | (with_reducible first | exact HB.out | apply below_alloc | apply pw_below_drewN | apply below_drew1 | refine below_set ?_ (IsS48.ge HI205.out) | refine below_set ?_ GE204.out | refine below_set ?_ GE212.out) | exact HB.out))⟩)
        ·skip
         rintro _ w17 ⟨hS_, h0_, h1_, h2_, h3_⟩
         have n0_ : Aside0 (w17.heap[gb204]? = some (.cells #[.int .i64 0, .bool false, .int .i64 0] 25 (0, 0))) := ⟨h0_⟩
         have n1_ : Aside0 (w17.heap[gb212]? = some (.cells #[.int .i64 t207, .bool t208, .int .i64 t209] 25 (0, 0))) := ⟨h1_⟩
         have n2_ : Aside0 (IsS48 w w17 gb205 l0 t210 t211) := ⟨h2_⟩
         have n3_ : Aside0 (Below w.heap.size w w17) := ⟨h3_⟩
         clear BK204
         clear BK212
         clear HI205
         clear HB
         clear h0_ h1_ h2_ h3_
         have BK204 := n0_
         have BK212 := n1_
         have HI205 := n2_
         have HB := n3_
         clear n0_ n1_ n2_ n3_
         have hHeld : w17.cell? ⟨gb212, 0, none⟩ = some (.int .i64 t207) ∧ w17.cell? ⟨gb212, 1, none⟩ = some (.bool t208) ∧ w17.cell? ⟨gb212, 2, none⟩ = some (.int .i64 t209) := hS_
         refine norm_ (a' := ?_) ?_ ?_
         rotate_left
         ·simp only [putAll, Act.put, List.setIfInBounds_toArray, List.set_cons_zero, List.set_cons_succ]
          rfl
         refine two_ (i := 5) (j := 13) (Ni := some 22) (Nj := some 30) #[true, true, true, true, true, true, false, false, true, false, false, false, true, false, false, false, false, false, false] #[true, true, true, true, true, false, false, false, true, false, false, false, true, true, false, false, false, false, false] rfl rfl rfl rfl (two_of HT_.out (by kernel_rfl)) (by decide) (by decide) (fun K hK => ?_) (fun K hK => ?_)
         ·skip
          refine goes_ Try.func32 (by kernel_rfl) rfl #[.int .i64 100, .int .i64 t213] (by rfl) rfl rfl (by (try simp only [List.map_toArray, List.map_cons, List.map_nil]); first | done | rfl | (simp only [List.length_drop, List.length_take]; rfl)) ?_
          with_reducible refine (spec_l1Least.calls 100 t213 t214 _ A4.out).mono ?_
          rintro e w' ⟨rfl, ⟨nd, rfl⟩⟩
          refine ⟨_, rfl, ?_⟩
          refine hK.out _ _ ⟨ec BK212, ec BK212, ec BK212⟩ (fun hHeld => ?_)
          clear hK K
          refine nm (some 22) ?_
          refine pu 6 (some 23) #[true, true, true, true, true, true, true, false, true, false, false, false, true, false, false, false, false, false, false] ?_
          exact norm_ (by first | (simp only [putAll, Act.put, List.setIfInBounds_toArray, List.set_cons_zero, List.set_cons_succ]; done) | (simp only [putAll, Act.put, List.setIfInBounds_toArray, List.set_cons_zero, List.set_cons_succ]; rfl)) (hJ4_5 () _ ⟨hHeld, (pk BK204), (pk BK212), (by repeat (first | (with_reducible first | exact HI205.out | apply IsS48.alloc | apply IsS48.drewN | apply IsS48.drew | apply IsS48.set_1 | apply IsS48.set_2 | refine IsS48.far ?_ NB205_204.out _ | refine IsS48.far ?_ NB205_212.out _) | exact HI205.out)), (by repeat (first | (with_reducible first | exact HB.out | apply below_alloc | apply pw_below_drewN | apply below_drew1 | refine below_set ?_ (IsS48.ge HI205.out) | refine below_set ?_ GE204.out | refine below_set ?_ GE212.out) | exact HB.out))⟩)
         ·skip
          refine Kd.R_lit_step (Kd.int .i64) _ 3 ?hg (N := 30) ?hd (xs := ([0, 1, 5, 20, 60, 1000, 1001, (-1)] : List Int)) (inner := [.int .i64 0, .int .i64 1, .int .i64 5, .int .i64 20, .int .i64 60, .int .i64 1000, .int .i64 1001, .int .i64 (-1)]) (ok := fun _ => True) (okp := fun _ => True) ?hr ?hp (fun _ hk => hk) trivial (Below.refl _ _) (Nat.le_refl _) (by simp) ?_; (case hd => rfl); (case hg => rfl); (case hr => first | (go_simp; done) | (go_simp; rfl)); (case hp => exact (Reps.one (show Kd.M (Kd.int .i64) _ _ _ 0 [.int .i64 0] from rfl) (Reps.one (show Kd.M (Kd.int .i64) _ _ _ 1 [.int .i64 1] from rfl) (Reps.one (show Kd.M (Kd.int .i64) _ _ _ 5 [.int .i64 5] from rfl) (Reps.one (show Kd.M (Kd.int .i64) _ _ _ 20 [.int .i64 20] from rfl) (Reps.one (show Kd.M (Kd.int .i64) _ _ _ 60 [.int .i64 60] from rfl) (Reps.one (show Kd.M (Kd.int .i64) _ _ _ 1000 [.int .i64 1000] from rfl) (Reps.one (show Kd.M (Kd.int .i64) _ _ _ 1001 [.int .i64 1001] from rfl) (Reps.one (show Kd.M (Kd.int .i64) _ _ _ (-1) [.int .i64 (-1)] from rfl) (Reps.none _ _))))))))))
          intro v222 w18 ho19 hb hg_ hnew_
          clear hg_ hnew_
          (first | rw [← Ny221.out] at ho19 | (simp only [Int.reduceToNat] at ho19; rw [← Ny221.out] at ho19))
          have HO223 := Aside0.mk (Kd.R_lower ho19 (below_size (by repeat (first | (with_reducible first | exact HB.out | apply below_alloc | apply pw_below_drewN | apply below_drew1 | refine below_set ?_ (IsS48.ge HI205.out) | refine below_set ?_ GE204.out | refine below_set ?_ GE212.out) | exact HB.out))))
          replace BK204 := nk BK204 hb
          replace BK212 := nk BK212 hb
          replace HB := Aside0.mk (below_step (by repeat (first | (with_reducible first | exact HB.out | apply below_alloc | apply pw_below_drewN | apply below_drew1 | refine below_set ?_ (IsS48.ge HI205.out) | refine below_set ?_ GE204.out | refine below_set ?_ GE212.out) | exact HB.out)) hb)
          replace HI205 := Aside0.mk (IsS48.below (by repeat (first | (with_reducible first | exact HI205.out | apply IsS48.alloc | apply IsS48.drewN | apply IsS48.drew | apply IsS48.set_1 | apply IsS48.set_2 | refine IsS48.far ?_ NB205_204.out _ | refine IsS48.far ?_ NB205_212.out _) | exact HI205.out)) hb)
          clear hb ho19
          refine hK.out _ _ ⟨ec BK212, ec BK212, ec BK212⟩ (fun hHeld => ?_)
          clear hK K
          refine nm (some 30) ?_
          exact norm_ (by first | (simp only [putAll, Act.put, List.setIfInBounds_toArray, List.set_cons_zero, List.set_cons_succ]; done) | (simp only [putAll, Act.put, List.setIfInBounds_toArray, List.set_cons_zero, List.set_cons_succ]; rfl)) (hJ4_13 (v222) _ ⟨hHeld, (pr HO223), (pk BK204), (pk BK212), (by repeat (first | (with_reducible first | exact HI205.out | apply IsS48.alloc | apply IsS48.drewN | apply IsS48.drew | apply IsS48.set_1 | apply IsS48.set_2 | refine IsS48.far ?_ NB205_204.out _ | refine IsS48.far ?_ NB205_212.out _) | exact HI205.out)), (by repeat (first | (with_reducible first | exact HB.out | apply below_alloc | apply pw_below_drewN | apply below_drew1 | refine below_set ?_ (IsS48.ge HI205.out) | refine below_set ?_ GE204.out | refine below_set ?_ GE212.out) | exact HB.out))⟩)
       ·skip
        rintro v222 w19 ⟨hS_, h0_, h1_, h2_, h3_, h4_⟩
        have n0_ : Aside0 (Kd.R (Kd.int .i64) 3 w19 w.heap.size (fun _ => True) v222 y221) := ⟨h0_⟩
        have n1_ : Aside0 (w19.heap[gb204]? = some (.cells #[.int .i64 0, .bool false, .int .i64 0] 25 (0, 0))) := ⟨h1_⟩
        have n2_ : Aside0 (w19.heap[gb212]? = some (.cells #[.int .i64 t207, .bool t208, .int .i64 t209] 25 (0, 0))) := ⟨h2_⟩
        have n3_ : Aside0 (IsS48 w w19 gb205 l0 t210 t211) := ⟨h3_⟩
        have n4_ : Aside0 (Below w.heap.size w w19) := ⟨h4_⟩
        clear BK204
        clear BK212
        clear HI205
        clear HB
        clear h0_ h1_ h2_ h3_ h4_
        have HO223 := n0_
        have BK204 := n1_
        have BK212 := n2_
        have HI205 := n3_
        have HB := n4_
        clear n0_ n1_ n2_ n3_ n4_
        have hHeld : w19.cell? ⟨gb212, 0, none⟩ = some (.int .i64 t207) ∧ w19.cell? ⟨gb212, 1, none⟩ = some (.bool t208) ∧ w19.cell? ⟨gb212, 2, none⟩ = some (.int .i64 t209) := hS_
        refine norm_ (a' := ?_) ?_ ?_
        rotate_left
        ·simp only [putAll, Act.put, List.setIfInBounds_toArray, List.set_cons_zero, List.set_cons_succ]
         rfl
        refine one_ (i := 5) (N := some 22) #[true, true, true, true, true, true, false, false, true, false, false, false, true, true, false, false, false, false, false] rfl rfl (one_of HT_.out (by kernel_rfl)) (by decide) (fun K hK => ?_)
        refine goes_ Try.func32 (by kernel_rfl) rfl #[.int .i64 100, .int .i64 t213] (by rfl) rfl rfl (by (try simp only [List.map_toArray, List.map_cons, List.map_nil]); first | done | rfl | (simp only [List.length_drop, List.length_take]; rfl)) ?_
        with_reducible refine (spec_l1Least.calls 100 t213 t214 _ A4.out).mono ?_
        rintro e w' ⟨rfl, ⟨nd, rfl⟩⟩
        refine ⟨_, rfl, ?_⟩
        refine hK.out _ _ ⟨ec BK212, ec BK212, ec BK212⟩ (fun hHeld => ?_)
        clear hK K
        refine nm (some 22) ?_
        refine pu 6 (some 23) #[true, true, true, true, true, true, true, false, true, false, false, false, true, true, false, false, false, false, false] ?_
        exact norm_ (by first | (simp only [putAll, Act.put, List.setIfInBounds_toArray, List.set_cons_zero, List.set_cons_succ]; done) | (simp only [putAll, Act.put, List.setIfInBounds_toArray, List.set_cons_zero, List.set_cons_succ]; rfl)) (hJ4_5_13 (v222) _ ⟨hHeld, (pr HO223), (pk BK204), (pk BK212), (by repeat (first | (with_reducible first | exact HI205.out | apply IsS48.alloc | apply IsS48.drewN | apply IsS48.drew | apply IsS48.set_1 | apply IsS48.set_2 | refine IsS48.far ?_ NB205_204.out _ | refine IsS48.far ?_ NB205_212.out _) | exact HI205.out)), (by repeat (first | (with_reducible first | exact HB.out | apply below_alloc | apply pw_below_drewN | apply below_drew1 | refine below_set ?_ (IsS48.ge HI205.out) | refine below_set ?_ GE204.out | refine below_set ?_ GE212.out) | exact HB.out))⟩)
      ·skip
       rintro _ w17 ⟨hS_, h0_, h1_, h2_, h3_⟩
       have n0_ : Aside0 (w17.heap[gb204]? = some (.cells #[.int .i64 0, .bool false, .int .i64 0] 25 (0, 0))) := ⟨h0_⟩
       have n1_ : Aside0 (w17.heap[gb212]? = some (.cells #[.int .i64 t207, .bool t208, .int .i64 t209] 25 (0, 0))) := ⟨h1_⟩
       have n2_ : Aside0 (IsS48 w w17 gb205 l0 t210 t211) := ⟨h2_⟩
       have n3_ : Aside0 (Below w.heap.size w w17) := ⟨h3_⟩
       clear BK204
       clear BK212
       clear HI205
       clear HB
       clear h0_ h1_ h2_ h3_
       have BK204 := n0_
       have BK212 := n1_
       have HI205 := n2_
       have HB := n3_
       clear n0_ n1_ n2_ n3_
       have hHeld : w17.cell? ⟨gb212, 0, none⟩ = some (.int .i64 t207) ∧ w17.cell? ⟨gb212, 1, none⟩ = some (.bool t208) ∧ w17.cell? ⟨gb212, 2, none⟩ = some (.int .i64 t209) := hS_
       refine norm_ (a' := ?_) ?_ ?_
       rotate_left
       ·simp only [putAll, Act.put, List.setIfInBounds_toArray, List.set_cons_zero, List.set_cons_succ]
        rfl
       refine two_ (i := 7) (j := 13) (Ni := some 24) (Nj := some 30) #[true, true, true, true, true, true, true, true, true, false, false, false, true, false, false, false, false, false, false] #[true, true, true, true, true, true, true, false, true, false, false, false, true, true, false, false, false, false, false] rfl rfl rfl rfl (two_of HT_.out (by kernel_rfl)) (by decide) (by decide) (fun K hK => ?_) (fun K hK => ?_)
       ·skip
        refine goes_ Try.func31 (by kernel_rfl) rfl #[.pointer (some ⟨gb205, 0, none⟩), .int .i64 (wrap64 (t214 + 1))] (by rfl) rfl rfl (by (try simp only [List.map_toArray, List.map_cons, List.map_nil]); first | done | rfl | (simp only [List.length_drop, List.length_take]; rfl)) ?_
        with_reducible refine (spec_l1Cur_pick.calls gb205 l0 t210 t211 (wrap64 (t214 + 1)) t215 t216 t217 w _ ?side1 ?side2 A5.out).mono ?_
        (case side1 => repeat (first | (with_reducible first | exact HI205.out | apply IsS48.alloc | apply IsS48.drewN | apply IsS48.drew | apply IsS48.set_1 | apply IsS48.set_2 | refine IsS48.far ?_ NB205_204.out _ | refine IsS48.far ?_ NB205_212.out _) | exact HI205.out))
        (case side2 => repeat (first | (with_reducible first | exact HB.out | apply below_alloc | apply pw_below_drewN | apply below_drew1 | refine below_set ?_ (IsS48.ge HI205.out) | refine below_set ?_ GE204.out | refine below_set ?_ GE212.out) | exact HB.out))
        rintro e w18 ⟨rfl, hi, hb, hk⟩
        refine ⟨_, rfl, ?_⟩
        replace BK204 := Aside0.mk (KeepBut.blk hk (g' := gb204) (o := .cells #[.int .i64 0, .bool false, .int .i64 0] 25 (0, 0)) (pk BK204) NB204_205.out (by simp))
        replace BK212 := Aside0.mk (KeepBut.blk hk (g' := gb212) (o := .cells #[.int .i64 t207, .bool t208, .int .i64 t209] 25 (0, 0)) (pk BK212) NB212_205.out (by simp))
        replace HB := Aside0.mk (hb)
        replace HI205 := Aside0.mk (hi)
        (try clear hb)
        refine hK.out _ _ ⟨ec BK212, ec BK212, ec BK212⟩ (fun hHeld => ?_)
        clear hK K
        refine nm (some 24) ?_
        exact norm_ (by first | (simp only [putAll, Act.put, List.setIfInBounds_toArray, List.set_cons_zero, List.set_cons_succ]; done) | (simp only [putAll, Act.put, List.setIfInBounds_toArray, List.set_cons_zero, List.set_cons_succ]; rfl)) (hJ4_5_7 () _ ⟨hHeld, (pk BK204), (pk BK212), (by repeat (first | (with_reducible first | exact HI205.out | apply IsS48.alloc | apply IsS48.drewN | apply IsS48.drew | apply IsS48.set_1 | apply IsS48.set_2 | refine IsS48.far ?_ NB205_204.out _ | refine IsS48.far ?_ NB205_212.out _) | exact HI205.out)), (by repeat (first | (with_reducible first | exact HB.out | apply below_alloc | apply pw_below_drewN | apply below_drew1 | refine below_set ?_ (IsS48.ge HI205.out) | refine below_set ?_ GE204.out | refine below_set ?_ GE212.out) | exact HB.out))⟩)
       ·skip
        refine Kd.R_lit_step (Kd.int .i64) _ 3 ?hg (N := 30) ?hd (xs := ([0, 1, 5, 20, 60, 1000, 1001, (-1)] : List Int)) (inner := [.int .i64 0, .int .i64 1, .int .i64 5, .int .i64 20, .int .i64 60, .int .i64 1000, .int .i64 1001, .int .i64 (-1)]) (ok := fun _ => True) (okp := fun _ => True) ?hr ?hp (fun _ hk => hk) trivial (Below.refl _ _) (Nat.le_refl _) (by simp) ?_; (case hd => rfl); (case hg => rfl); (case hr => first | (go_simp; done) | (go_simp; rfl)); (case hp => exact (Reps.one (show Kd.M (Kd.int .i64) _ _ _ 0 [.int .i64 0] from rfl) (Reps.one (show Kd.M (Kd.int .i64) _ _ _ 1 [.int .i64 1] from rfl) (Reps.one (show Kd.M (Kd.int .i64) _ _ _ 5 [.int .i64 5] from rfl) (Reps.one (show Kd.M (Kd.int .i64) _ _ _ 20 [.int .i64 20] from rfl) (Reps.one (show Kd.M (Kd.int .i64) _ _ _ 60 [.int .i64 60] from rfl) (Reps.one (show Kd.M (Kd.int .i64) _ _ _ 1000 [.int .i64 1000] from rfl) (Reps.one (show Kd.M (Kd.int .i64) _ _ _ 1001 [.int .i64 1001] from rfl) (Reps.one (show Kd.M (Kd.int .i64) _ _ _ (-1) [.int .i64 (-1)] from rfl) (Reps.none _ _))))))))))
        intro v222 w18 ho19 hb hg_ hnew_
        clear hg_ hnew_
        (first | rw [← Ny221.out] at ho19 | (simp only [Int.reduceToNat] at ho19; rw [← Ny221.out] at ho19))
        have HO223 := Aside0.mk (Kd.R_lower ho19 (below_size (by repeat (first | (with_reducible first | exact HB.out | apply below_alloc | apply pw_below_drewN | apply below_drew1 | refine below_set ?_ (IsS48.ge HI205.out) | refine below_set ?_ GE204.out | refine below_set ?_ GE212.out) | exact HB.out))))
        replace BK204 := nk BK204 hb
        replace BK212 := nk BK212 hb
        replace HB := Aside0.mk (below_step (by repeat (first | (with_reducible first | exact HB.out | apply below_alloc | apply pw_below_drewN | apply below_drew1 | refine below_set ?_ (IsS48.ge HI205.out) | refine below_set ?_ GE204.out | refine below_set ?_ GE212.out) | exact HB.out)) hb)
        replace HI205 := Aside0.mk (IsS48.below (by repeat (first | (with_reducible first | exact HI205.out | apply IsS48.alloc | apply IsS48.drewN | apply IsS48.drew | apply IsS48.set_1 | apply IsS48.set_2 | refine IsS48.far ?_ NB205_204.out _ | refine IsS48.far ?_ NB205_212.out _) | exact HI205.out)) hb)
        clear hb ho19
        refine hK.out _ _ ⟨ec BK212, ec BK212, ec BK212⟩ (fun hHeld => ?_)
        clear hK K
        refine nm (some 30) ?_
        exact norm_ (by first | (simp only [putAll, Act.put, List.setIfInBounds_toArray, List.set_cons_zero, List.set_cons_succ]; done) | (simp only [putAll, Act.put, List.setIfInBounds_toArray, List.set_cons_zero, List.set_cons_succ]; rfl)) (hJ4_5_13 (v222) _ ⟨hHeld, (pr HO223), (pk BK204), (pk BK212), (by repeat (first | (with_reducible first | exact HI205.out | apply IsS48.alloc | apply IsS48.drewN | apply IsS48.drew | apply IsS48.set_1 | apply IsS48.set_2 | refine IsS48.far ?_ NB205_204.out _ | refine IsS48.far ?_ NB205_212.out _) | exact HI205.out)), (by repeat (first | (with_reducible first | exact HB.out | apply below_alloc | apply pw_below_drewN | apply below_drew1 | refine below_set ?_ (IsS48.ge HI205.out) | refine below_set ?_ GE204.out | refine below_set ?_ GE212.out) | exact HB.out))⟩)
     ·skip
      rintro v222 w19 ⟨hS_, h0_, h1_, h2_, h3_, h4_⟩
      have n0_ : Aside0 (Kd.R (Kd.int .i64) 3 w19 w.heap.size (fun _ => True) v222 y221) := ⟨h0_⟩
      have n1_ : Aside0 (w19.heap[gb204]? = some (.cells #[.int .i64 0, .bool false, .int .i64 0] 25 (0, 0))) := ⟨h1_⟩
      have n2_ : Aside0 (w19.heap[gb212]? = some (.cells #[.int .i64 t207, .bool t208, .int .i64 t209] 25 (0, 0))) := ⟨h2_⟩
      have n3_ : Aside0 (IsS48 w w19 gb205 l0 t210 t211) := ⟨h3_⟩
      have n4_ : Aside0 (Below w.heap.size w w19) := ⟨h4_⟩
      clear BK204
      clear BK212
      clear HI205
      clear HB
      clear h0_ h1_ h2_ h3_ h4_
      have HO223 := n0_
      have BK204 := n1_
      have BK212 := n2_
      have HI205 := n3_
      have HB := n4_
      clear n0_ n1_ n2_ n3_ n4_
      have hHeld : w19.cell? ⟨gb212, 0, none⟩ = some (.int .i64 t207) ∧ w19.cell? ⟨gb212, 1, none⟩ = some (.bool t208) ∧ w19.cell? ⟨gb212, 2, none⟩ = some (.int .i64 t209) := hS_
      refine norm_ (a' := ?_) ?_ ?_
      rotate_left
      ·simp only [putAll, Act.put, List.setIfInBounds_toArray, List.set_cons_zero, List.set_cons_succ]
       rfl
      refine one_ (i := 7) (N := some 24) #[true, true, true, true, true, true, true, true, true, false, false, false, true, true, false, false, false, false, false] rfl rfl (one_of HT_.out (by kernel_rfl)) (by decide) (fun K hK => ?_)
      refine goes_ Try.func31 (by kernel_rfl) rfl #[.pointer (some ⟨gb205, 0, none⟩), .int .i64 (wrap64 (t214 + 1))] (by rfl) rfl rfl (by (try simp only [List.map_toArray, List.map_cons, List.map_nil]); first | done | rfl | (simp only [List.length_drop, List.length_take]; rfl)) ?_
      with_reducible refine (spec_l1Cur_pick.calls gb205 l0 t210 t211 (wrap64 (t214 + 1)) t215 t216 t217 w _ ?side1 ?side2 A5.out).mono ?_
      (case side1 => repeat (first | (with_reducible first | exact HI205.out | apply IsS48.alloc | apply IsS48.drewN | apply IsS48.drew | apply IsS48.set_1 | apply IsS48.set_2 | refine IsS48.far ?_ NB205_204.out _ | refine IsS48.far ?_ NB205_212.out _) | exact HI205.out))
      (case side2 => repeat (first | (with_reducible first | exact HB.out | apply below_alloc | apply pw_below_drewN | apply below_drew1 | refine below_set ?_ (IsS48.ge HI205.out) | refine below_set ?_ GE204.out | refine below_set ?_ GE212.out) | exact HB.out))
      rintro e w20 ⟨rfl, hi, hb, hk⟩
      refine ⟨_, rfl, ?_⟩
      replace BK204 := Aside0.mk (KeepBut.blk hk (g' := gb204) (o := .cells #[.int .i64 0, .bool false, .int .i64 0] 25 (0, 0)) (pk BK204) NB204_205.out (by simp))
      replace BK212 := Aside0.mk (KeepBut.blk hk (g' := gb212) (o := .cells #[.int .i64 t207, .bool t208, .int .i64 t209] 25 (0, 0)) (pk BK212) NB212_205.out (by simp))
      replace HO223 := Aside0.mk (Kd.R_mono (Kd.R_keep (IsS48.apart (show IsS48 w _ gb205 l0 t210 t211 from by repeat (first | (with_reducible first | exact HI205.out | apply IsS48.alloc | apply IsS48.drewN | apply IsS48.drew | apply IsS48.set_1 | apply IsS48.set_2 | refine IsS48.far ?_ NB205_204.out _ | refine IsS48.far ?_ NB205_212.out _) | exact HI205.out)) (pr HO223) (by decide)) hk (fun _ h => h.2)) (fun _ h => h.1))
      replace HB := Aside0.mk (hb)
      replace HI205 := Aside0.mk (hi)
      (try clear hb)
      refine hK.out _ _ ⟨ec BK212, ec BK212, ec BK212⟩ (fun hHeld => ?_)
      clear hK K
      refine nm (some 24) ?_
      exact norm_ (by first | (simp only [putAll, Act.put, List.setIfInBounds_toArray, List.set_cons_zero, List.set_cons_succ]; done) | (simp only [putAll, Act.put, List.setIfInBounds_toArray, List.set_cons_zero, List.set_cons_succ]; rfl)) (hJ4_5_7_13 (v222) _ ⟨hHeld, (pr HO223), (pk BK204), (pk BK212), (by repeat (first | (with_reducible first | exact HI205.out | apply IsS48.alloc | apply IsS48.drewN | apply IsS48.drew | apply IsS48.set_1 | apply IsS48.set_2 | refine IsS48.far ?_ NB205_204.out _ | refine IsS48.far ?_ NB205_212.out _) | exact HI205.out)), (by repeat (first | (with_reducible first | exact HB.out | apply below_alloc | apply pw_below_drewN | apply below_drew1 | refine below_set ?_ (IsS48.ge HI205.out) | refine below_set ?_ GE204.out | refine below_set ?_ GE212.out) | exact HB.out))⟩)
    ·skip
     rintro _ w18 ⟨hS_, h0_, h1_, h2_, h3_⟩
     have n0_ : Aside0 (w18.heap[gb204]? = some (.cells #[.int .i64 0, .bool false, .int .i64 0] 25 (0, 0))) := ⟨h0_⟩
     have n1_ : Aside0 (w18.heap[gb212]? = some (.cells #[.int .i64 t207, .bool t208, .int .i64 t209] 25 (0, 0))) := ⟨h1_⟩
     have n2_ : Aside0 (IsS48 w w18 gb205 l0 t216 t217) := ⟨h2_⟩
     have n3_ : Aside0 (Below w.heap.size w w18) := ⟨h3_⟩
     clear BK204
     clear BK212
     clear HI205
     clear HB
     clear h0_ h1_ h2_ h3_
     have BK204 := n0_
     have BK212 := n1_
     have HI205 := n2_
     have HB := n3_
     clear n0_ n1_ n2_ n3_
     have hHeld : w18.cell? ⟨gb212, 0, none⟩ = some (.int .i64 t207) ∧ w18.cell? ⟨gb212, 1, none⟩ = some (.bool t208) ∧ w18.cell? ⟨gb212, 2, none⟩ = some (.int .i64 t209) := hS_
     refine norm_ (a' := ?_) ?_ ?_
     rotate_left
     ·simp only [putAll, Act.put, List.setIfInBounds_toArray, List.set_cons_zero, List.set_cons_succ]
      rfl
     refine two_ (i := 9) (j := 13) (Ni := some 26) (Nj := some 30) #[true, true, true, true, true, true, true, true, true, true, false, false, true, false, false, false, false, false, false] #[true, true, true, true, true, true, true, true, true, false, false, false, true, true, false, false, false, false, false] rfl rfl rfl rfl (two_of HT_.out (by kernel_rfl)) (by decide) (by decide) (fun K hK => ?_) (fun K hK => ?_)
     ·skip
      refine goes_ Try.func31 (by kernel_rfl) rfl #[.pointer (some ⟨gb205, 0, none⟩), .int .i64 9] (by rfl) rfl rfl (by (try simp only [List.map_toArray, List.map_cons, List.map_nil]); first | done | rfl | (simp only [List.length_drop, List.length_take]; rfl)) ?_
      with_reducible refine (spec_l1Cur_pick.calls gb205 l0 t216 t217 9 t218 t219 t220 w _ ?side1 ?side2 A6.out).mono ?_
      (case side1 => repeat (first | (with_reducible first | exact HI205.out | apply IsS48.alloc | apply IsS48.drewN | apply IsS48.drew | apply IsS48.set_1 | apply IsS48.set_2 | refine IsS48.far ?_ NB205_204.out _ | refine IsS48.far ?_ NB205_212.out _) | exact HI205.out))
      (case side2 => repeat (first | (with_reducible first | exact HB.out | apply below_alloc | apply pw_below_drewN | apply below_drew1 | refine below_set ?_ (IsS48.ge HI205.out) | refine below_set ?_ GE204.out | refine below_set ?_ GE212.out) | exact HB.out))
      rintro e w19 ⟨rfl, hi, hb, hk⟩
      refine ⟨_, rfl, ?_⟩
      replace BK204 := Aside0.mk (KeepBut.blk hk (g' := gb204) (o := .cells #[.int .i64 0, .bool false, .int .i64 0] 25 (0, 0)) (pk BK204) NB204_205.out (by simp))
      replace BK212 := Aside0.mk (KeepBut.blk hk (g' := gb212) (o := .cells #[.int .i64 t207, .bool t208, .int .i64 t209] 25 (0, 0)) (pk BK212) NB212_205.out (by simp))
      replace HB := Aside0.mk (hb)
      replace HI205 := Aside0.mk (hi)
      (try clear hb)
      refine hK.out _ _ ⟨ec BK212, ec BK212, ec BK212⟩ (fun hHeld => ?_)
      clear hK K
      refine nm (some 26) ?_
      refine pu 10 (some 27) #[true, true, true, true, true, true, true, true, true, true, true, false, true, false, false, false, false, false, false] ?_
      refine pu 11 (some 28) #[true, true, true, true, true, true, true, true, true, true, true, true, true, false, false, false, false, false, false] ?_
      exact norm_ (by first | (simp only [putAll, Act.put, List.setIfInBounds_toArray, List.set_cons_zero, List.set_cons_succ]; done) | (simp only [putAll, Act.put, List.setIfInBounds_toArray, List.set_cons_zero, List.set_cons_succ]; rfl)) (hJ4_5_7_9 () _ ⟨hHeld, (pk BK204), (pk BK212), (by repeat (first | (with_reducible first | exact HI205.out | apply IsS48.alloc | apply IsS48.drewN | apply IsS48.drew | apply IsS48.set_1 | apply IsS48.set_2 | refine IsS48.far ?_ NB205_204.out _ | refine IsS48.far ?_ NB205_212.out _) | exact HI205.out)), (by repeat (first | (with_reducible first | exact HB.out | apply below_alloc | apply pw_below_drewN | apply below_drew1 | refine below_set ?_ (IsS48.ge HI205.out) | refine below_set ?_ GE204.out | refine below_set ?_ GE212.out) | exact HB.out))⟩)
     ·skip
      refine Kd.R_lit_step (Kd.int .i64) _ 3 ?hg (N := 30) ?hd (xs := ([0, 1, 5, 20, 60, 1000, 1001, (-1)] : List Int)) (inner := [.int .i64 0, .int .i64 1, .int .i64 5, .int .i64 20, .int .i64 60, .int .i64 1000, .int .i64 1001, .int .i64 (-1)]) (ok := fun _ => True) (okp := fun _ => True) ?hr ?hp (fun _ hk => hk) trivial (Below.refl _ _) (Nat.le_refl _) (by simp) ?_; (case hd => rfl); (case hg => rfl); (case hr => first | (go_simp; done) | (go_simp; rfl)); (case hp => exact (Reps.one (show Kd.M (Kd.int .i64) _ _ _ 0 [.int .i64 0] from rfl) (Reps.one (show Kd.M (Kd.int .i64) _ _ _ 1 [.int .i64 1] from rfl) (Reps.one (show Kd.M (Kd.int .i64) _ _ _ 5 [.int .i64 5] from rfl) (Reps.one (show Kd.M (Kd.int .i64) _ _ _ 20 [.int .i64 20] from rfl) (Reps.one (show Kd.M (Kd.int .i64) _ _ _ 60 [.int .i64 60] from rfl) (Reps.one (show Kd.M (Kd.int .i64) _ _ _ 1000 [.int .i64 1000] from rfl) (Reps.one (show Kd.M (Kd.int .i64) _ _ _ 1001 [.int .i64 1001] from rfl) (Reps.one (show Kd.M (Kd.int .i64) _ _ _ (-1) [.int .i64 (-1)] from rfl) (Reps.none _ _))))))))))
      intro v222 w19 ho20 hb hg_ hnew_
      clear hg_ hnew_
      (first | rw [← Ny221.out] at ho20 | (simp only [Int.reduceToNat] at ho20; rw [← Ny221.out] at ho20))
      have HO223 := Aside0.mk (Kd.R_lower ho20 (below_size (by repeat (first | (with_reducible first | exact HB.out | apply below_alloc | apply pw_below_drewN | apply below_drew1 | refine below_set ?_ (IsS48.ge HI205.out) | refine below_set ?_ GE204.out | refine below_set ?_ GE212.out) | exact HB.out))))
      replace BK204 := nk BK204 hb
      replace BK212 := nk BK212 hb
      replace HB := Aside0.mk (below_step (by repeat (first | (with_reducible first | exact HB.out | apply below_alloc | apply pw_below_drewN | apply below_drew1 | refine below_set ?_ (IsS48.ge HI205.out) | refine below_set ?_ GE204.out | refine below_set ?_ GE212.out) | exact HB.out)) hb)
      replace HI205 := Aside0.mk (IsS48.below (by repeat (first | (with_reducible first | exact HI205.out | apply IsS48.alloc | apply IsS48.drewN | apply IsS48.drew | apply IsS48.set_1 | apply IsS48.set_2 | refine IsS48.far ?_ NB205_204.out _ | refine IsS48.far ?_ NB205_212.out _) | exact HI205.out)) hb)
      clear hb ho20
      refine hK.out _ _ ⟨ec BK212, ec BK212, ec BK212⟩ (fun hHeld => ?_)
      clear hK K
      refine nm (some 30) ?_
      exact norm_ (by first | (simp only [putAll, Act.put, List.setIfInBounds_toArray, List.set_cons_zero, List.set_cons_succ]; done) | (simp only [putAll, Act.put, List.setIfInBounds_toArray, List.set_cons_zero, List.set_cons_succ]; rfl)) (hJ4_5_7_13 (v222) _ ⟨hHeld, (pr HO223), (pk BK204), (pk BK212), (by repeat (first | (with_reducible first | exact HI205.out | apply IsS48.alloc | apply IsS48.drewN | apply IsS48.drew | apply IsS48.set_1 | apply IsS48.set_2 | refine IsS48.far ?_ NB205_204.out _ | refine IsS48.far ?_ NB205_212.out _) | exact HI205.out)), (by repeat (first | (with_reducible first | exact HB.out | apply below_alloc | apply pw_below_drewN | apply below_drew1 | refine below_set ?_ (IsS48.ge HI205.out) | refine below_set ?_ GE204.out | refine below_set ?_ GE212.out) | exact HB.out))⟩)
   ·skip
    rintro v222 w20 ⟨hS_, h0_, h1_, h2_, h3_, h4_⟩
    have n0_ : Aside0 (Kd.R (Kd.int .i64) 3 w20 w.heap.size (fun _ => True) v222 y221) := ⟨h0_⟩
    have n1_ : Aside0 (w20.heap[gb204]? = some (.cells #[.int .i64 0, .bool false, .int .i64 0] 25 (0, 0))) := ⟨h1_⟩
    have n2_ : Aside0 (w20.heap[gb212]? = some (.cells #[.int .i64 t207, .bool t208, .int .i64 t209] 25 (0, 0))) := ⟨h2_⟩
    have n3_ : Aside0 (IsS48 w w20 gb205 l0 t216 t217) := ⟨h3_⟩
    have n4_ : Aside0 (Below w.heap.size w w20) := ⟨h4_⟩
    clear BK204
    clear BK212
    clear HI205
    clear HB
    clear h0_ h1_ h2_ h3_ h4_
    have HO223 := n0_
    have BK204 := n1_
    have BK212 := n2_
    have HI205 := n3_
    have HB := n4_
    clear n0_ n1_ n2_ n3_ n4_
    have hHeld : w20.cell? ⟨gb212, 0, none⟩ = some (.int .i64 t207) ∧ w20.cell? ⟨gb212, 1, none⟩ = some (.bool t208) ∧ w20.cell? ⟨gb212, 2, none⟩ = some (.int .i64 t209) := hS_
    refine norm_ (a' := ?_) ?_ ?_
    rotate_left
    ·simp only [putAll, Act.put, List.setIfInBounds_toArray, List.set_cons_zero, List.set_cons_succ]
     rfl
    refine one_ (i := 9) (N := some 26) #[true, true, true, true, true, true, true, true, true, true, false, false, true, true, false, false, false, false, false] rfl rfl (one_of HT_.out (by kernel_rfl)) (by decide) (fun K hK => ?_)
    refine goes_ Try.func31 (by kernel_rfl) rfl #[.pointer (some ⟨gb205, 0, none⟩), .int .i64 9] (by rfl) rfl rfl (by (try simp only [List.map_toArray, List.map_cons, List.map_nil]); first | done | rfl | (simp only [List.length_drop, List.length_take]; rfl)) ?_
    with_reducible refine (spec_l1Cur_pick.calls gb205 l0 t216 t217 9 t218 t219 t220 w _ ?side1 ?side2 A6.out).mono ?_
    (case side1 => repeat (first | (with_reducible first | exact HI205.out | apply IsS48.alloc | apply IsS48.drewN | apply IsS48.drew | apply IsS48.set_1 | apply IsS48.set_2 | refine IsS48.far ?_ NB205_204.out _ | refine IsS48.far ?_ NB205_212.out _) | exact HI205.out))
    (case side2 => repeat (first | (with_reducible first | exact HB.out | apply below_alloc | apply pw_below_drewN | apply below_drew1 | refine below_set ?_ (IsS48.ge HI205.out) | refine below_set ?_ GE204.out | refine below_set ?_ GE212.out) | exact HB.out))
    rintro e w21 ⟨rfl, hi, hb, hk⟩
    refine ⟨_, rfl, ?_⟩
    replace BK204 := Aside0.mk (KeepBut.blk hk (g' := gb204) (o := .cells #[.int .i64 0, .bool false, .int .i64 0] 25 (0, 0)) (pk BK204) NB204_205.out (by simp))
    replace BK212 := Aside0.mk (KeepBut.blk hk (g' := gb212) (o := .cells #[.int .i64 t207, .bool t208, .int .i64 t209] 25 (0, 0)) (pk BK212) NB212_205.out (by simp))
    replace HO223 := Aside0.mk (Kd.R_mono (Kd.R_keep (IsS48.apart (show IsS48 w _ gb205 l0 t216 t217 from by repeat (first | (with_reducible first | exact HI205.out | apply IsS48.alloc | apply IsS48.drewN | apply IsS48.drew | apply IsS48.set_1 | apply IsS48.set_2 | refine IsS48.far ?_ NB205_204.out _ | refine IsS48.far ?_ NB205_212.out _) | exact HI205.out)) (pr HO223) (by decide)) hk (fun _ h => h.2)) (fun _ h => h.1))
    replace HB := Aside0.mk (hb)
    replace HI205 := Aside0.mk (hi)
    (try clear hb)
    refine hK.out _ _ ⟨ec BK212, ec BK212, ec BK212⟩ (fun hHeld => ?_)
    clear hK K
    refine nm (some 26) ?_
    refine pu 10 (some 27) #[true, true, true, true, true, true, true, true, true, true, true, false, true, true, false, false, false, false, false] ?_
    refine pu 11 (some 28) #[true, true, true, true, true, true, true, true, true, true, true, true, true, true, false, false, false, false, false] ?_
    exact norm_ (by first | (simp only [putAll, Act.put, List.setIfInBounds_toArray, List.set_cons_zero, List.set_cons_succ]; done) | (simp only [putAll, Act.put, List.setIfInBounds_toArray, List.set_cons_zero, List.set_cons_succ]; rfl)) (hJ4_5_7_9_13 (v222) _ ⟨hHeld, (pr HO223), (pk BK204), (pk BK212), (by repeat (first | (with_reducible first | exact HI205.out | apply IsS48.alloc | apply IsS48.drewN | apply IsS48.drew | apply IsS48.set_1 | apply IsS48.set_2 | refine IsS48.far ?_ NB205_204.out _ | refine IsS48.far ?_ NB205_212.out _) | exact HI205.out)), (by repeat (first | (with_reducible first | exact HB.out | apply below_alloc | apply pw_below_drewN | apply below_drew1 | refine below_set ?_ (IsS48.ge HI205.out) | refine below_set ?_ GE204.out | refine below_set ?_ GE212.out) | exact HB.out))⟩)
  ·skip
   rintro _ w19 ⟨hS_, h0_, h1_, h2_, h3_⟩
   have n0_ : Aside0 (w19.heap[gb204]? = some (.cells #[.int .i64 0, .bool false, .int .i64 0] 25 (0, 0))) := ⟨h0_⟩
   have n1_ : Aside0 (w19.heap[gb212]? = some (.cells #[.int .i64 t207, .bool t208, .int .i64 t209] 25 (0, 0))) := ⟨h1_⟩
   have n2_ : Aside0 (IsS48 w w19 gb205 l0 t219 t220) := ⟨h2_⟩
   have n3_ : Aside0 (Below w.heap.size w w19) := ⟨h3_⟩
   clear BK204
   clear BK212
   clear HI205
   clear HB
   clear h0_ h1_ h2_ h3_
   have BK204 := n0_
   have BK212 := n1_
   have HI205 := n2_
   have HB := n3_
   clear n0_ n1_ n2_ n3_
   have hHeld : w19.cell? ⟨gb212, 0, none⟩ = some (.int .i64 t207) ∧ w19.cell? ⟨gb212, 1, none⟩ = some (.bool t208) ∧ w19.cell? ⟨gb212, 2, none⟩ = some (.int .i64 t209) := hS_
   refine norm_ (a' := ?_) ?_ ?_
   rotate_left
   ·simp only [putAll, Act.put, List.setIfInBounds_toArray, List.set_cons_zero, List.set_cons_succ]
    rfl
   refine one_ (i := 13) (N := some 30) #[true, true, true, true, true, true, true, true, true, true, true, true, true, true, false, false, false, false, false] rfl rfl (one_of HT_.out (by kernel_rfl)) (by decide) (fun K hK => ?_)
   refine Kd.R_lit_step (Kd.int .i64) _ 3 ?hg (N := 30) ?hd (xs := ([0, 1, 5, 20, 60, 1000, 1001, (-1)] : List Int)) (inner := [.int .i64 0, .int .i64 1, .int .i64 5, .int .i64 20, .int .i64 60, .int .i64 1000, .int .i64 1001, .int .i64 (-1)]) (ok := fun _ => True) (okp := fun _ => True) ?hr ?hp (fun _ hk => hk) trivial (Below.refl _ _) (Nat.le_refl _) (by simp) ?_; (case hd => rfl); (case hg => rfl); (case hr => first | (go_simp; done) | (go_simp; rfl)); (case hp => exact (Reps.one (show Kd.M (Kd.int .i64) _ _ _ 0 [.int .i64 0] from rfl) (Reps.one (show Kd.M (Kd.int .i64) _ _ _ 1 [.int .i64 1] from rfl) (Reps.one (show Kd.M (Kd.int .i64) _ _ _ 5 [.int .i64 5] from rfl) (Reps.one (show Kd.M (Kd.int .i64) _ _ _ 20 [.int .i64 20] from rfl) (Reps.one (show Kd.M (Kd.int .i64) _ _ _ 60 [.int .i64 60] from rfl) (Reps.one (show Kd.M (Kd.int .i64) _ _ _ 1000 [.int .i64 1000] from rfl) (Reps.one (show Kd.M (Kd.int .i64) _ _ _ 1001 [.int .i64 1001] from rfl) (Reps.one (show Kd.M (Kd.int .i64) _ _ _ (-1) [.int .i64 (-1)] from rfl) (Reps.none _ _))))))))))
   intro v222 w20 ho21 hb hg_ hnew_
   clear hg_ hnew_
   (first | rw [← Ny221.out] at ho21 | (simp only [Int.reduceToNat] at ho21; rw [← Ny221.out] at ho21))
   have HO223 := Aside0.mk (Kd.R_lower ho21 (below_size (by repeat (first | (with_reducible first | exact HB.out | apply below_alloc | apply pw_below_drewN | apply below_drew1 | refine below_set ?_ (IsS48.ge HI205.out) | refine below_set ?_ GE204.out | refine below_set ?_ GE212.out) | exact HB.out))))
   replace BK204 := nk BK204 hb
   replace BK212 := nk BK212 hb
   replace HB := Aside0.mk (below_step (by repeat (first | (with_reducible first | exact HB.out | apply below_alloc | apply pw_below_drewN | apply below_drew1 | refine below_set ?_ (IsS48.ge HI205.out) | refine below_set ?_ GE204.out | refine below_set ?_ GE212.out) | exact HB.out)) hb)
   replace HI205 := Aside0.mk (IsS48.below (by repeat (first | (with_reducible first | exact HI205.out | apply IsS48.alloc | apply IsS48.drewN | apply IsS48.drew | apply IsS48.set_1 | apply IsS48.set_2 | refine IsS48.far ?_ NB205_204.out _ | refine IsS48.far ?_ NB205_212.out _) | exact HI205.out)) hb)
   clear hb ho21
   refine hK.out _ _ ⟨ec BK212, ec BK212, ec BK212⟩ (fun hHeld => ?_)
   clear hK K
   refine nm (some 30) ?_
   exact norm_ (by first | (simp only [putAll, Act.put, List.setIfInBounds_toArray, List.set_cons_zero, List.set_cons_succ]; done) | (simp only [putAll, Act.put, List.setIfInBounds_toArray, List.set_cons_zero, List.set_cons_succ]; rfl)) (hJ4_5_7_9_13 (v222) _ ⟨hHeld, (pr HO223), (pk BK204), (pk BK212), (by repeat (first | (with_reducible first | exact HI205.out | apply IsS48.alloc | apply IsS48.drewN | apply IsS48.drew | apply IsS48.set_1 | apply IsS48.set_2 | refine IsS48.far ?_ NB205_204.out _ | refine IsS48.far ?_ NB205_212.out _) | exact HI205.out)), (by repeat (first | (with_reducible first | exact HB.out | apply below_alloc | apply pw_below_drewN | apply below_drew1 | refine below_set ?_ (IsS48.ge HI205.out) | refine below_set ?_ GE204.out | refine below_set ?_ GE212.out) | exact HB.out))⟩)
 rintro v222 w21 ⟨hS_, h0_, h1_, h2_, h3_, h4_⟩
 have n0_ : Aside0 (Kd.R (Kd.int .i64) 3 w21 w.heap.size (fun _ => True) v222 y221) := ⟨h0_⟩
 have n1_ : Aside0 (w21.heap[gb204]? = some (.cells #[.int .i64 0, .bool false, .int .i64 0] 25 (0, 0))) := ⟨h1_⟩
 have n2_ : Aside0 (w21.heap[gb212]? = some (.cells #[.int .i64 t207, .bool t208, .int .i64 t209] 25 (0, 0))) := ⟨h2_⟩
 have n3_ : Aside0 (IsS48 w w21 gb205 l0 t219 t220) := ⟨h3_⟩
 have n4_ : Aside0 (Below w.heap.size w w21) := ⟨h4_⟩
 clear BK204
 clear BK212
 clear HI205
 clear HB
 clear h0_ h1_ h2_ h3_ h4_
 have HO223 := n0_
 have BK204 := n1_
 have BK212 := n2_
 have HI205 := n3_
 have HB := n4_
 clear n0_ n1_ n2_ n3_ n4_
 have hHeld : w21.cell? ⟨gb212, 0, none⟩ = some (.int .i64 t207) ∧ w21.cell? ⟨gb212, 1, none⟩ = some (.bool t208) ∧ w21.cell? ⟨gb212, 2, none⟩ = some (.int .i64 t209) := hS_
 obtain ⟨Ao22, co22, eo22⟩ := Kd.R_slice HO223.out
 (first | subst eo22 | (injection eo22 with f1_ f2_ f3_; have f4_ := f1_.symm; have f5_ := f3_.symm; clear f1_ f2_ f3_; subst f4_; subst f5_))
 refine norm_ (a' := ?_) ?_ ?_
 rotate_left
 ·simp only [putAll, Act.put, List.setIfInBounds_toArray, List.set_cons_zero, List.set_cons_succ]
  rfl
 refine one_ (i := 14) (N := some 31) #[true, true, true, true, true, true, true, true, true, true, true, true, true, true, true, false, false, false, false] rfl rfl (one_of HT_.out (by kernel_rfl)) (by decide) (fun K hK => ?_)
 refine goes_ Try.func22 (by kernel_rfl) rfl #[.pointer (some ⟨gb205, 0, none⟩), .slice Ao22 y221.length co22] (by rfl) rfl rfl (by (try simp only [List.map_toArray, List.map_cons, List.map_nil]); first | done | rfl | (simp only [List.length_drop, List.length_take]; rfl)) ?_
 with_reducible refine (spec_l1Cur_among.calls gb205 l0 t219 t220 _ _ y221 t224 t225 t226 w _ ?side1 ?side2 ?side3 ?side4 ?side5 A7.out).mono ?_
 (case side1 => repeat (first | (with_reducible first | exact HI205.out | apply IsS48.alloc | apply IsS48.drewN | apply IsS48.drew | apply IsS48.set_1 | apply IsS48.set_2 | refine IsS48.far ?_ NB205_204.out _ | refine IsS48.far ?_ NB205_212.out _) | exact HI205.out))
 (case side2 => repeat (first | (with_reducible first | exact HB.out | apply below_alloc | apply pw_below_drewN | apply below_drew1 | refine below_set ?_ (IsS48.ge HI205.out) | refine below_set ?_ GE204.out | refine below_set ?_ GE212.out) | exact HB.out))
 (case side3 => repeat (first | exact (Kd.R_reads' HO223.out).2.2 | (with_reducible refine Kd.C_alloc ?_ _) | (with_reducible refine Kd.C_drewN ?_ _) | (with_reducible refine Kd.C_drew ?_)))
 (case side4 => exact (Kd.R_reads' HO223.out).2.1)
 (case side5 => exact far_slice (IsS48.own_ne HI205.out HO223.out (by decide)))
 rintro e w23 ⟨rfl, hi, hb, hk⟩
 refine ⟨_, rfl, ?_⟩
 replace BK204 := Aside0.mk (KeepBut.blk hk (g' := gb204) (o := .cells #[.int .i64 0, .bool false, .int .i64 0] 25 (0, 0)) (pk BK204) NB204_205.out (by simp))
 replace BK212 := Aside0.mk (KeepBut.blk hk (g' := gb212) (o := .cells #[.int .i64 t207, .bool t208, .int .i64 t209] 25 (0, 0)) (pk BK212) NB212_205.out (by simp))
 replace HO223 := Aside0.mk (Kd.R_mono (Kd.R_keep (IsS48.apart (show IsS48 w _ gb205 l0 t219 t220 from by repeat (first | (with_reducible first | exact HI205.out | apply IsS48.alloc | apply IsS48.drewN | apply IsS48.drew | apply IsS48.set_1 | apply IsS48.set_2 | refine IsS48.far ?_ NB205_204.out _ | refine IsS48.far ?_ NB205_212.out _) | exact HI205.out)) (pr HO223) (by decide)) hk (fun _ h => h.2)) (fun _ h => h.1))
 replace HB := Aside0.mk (hb)
 replace HI205 := Aside0.mk (hi)
 (try clear hb)
 refine hK.out _ _ ⟨ec BK212, ec BK212, ec BK212⟩ (fun hHeld => ?_)
 clear hK K
 refine nm (some 31) ?_
 refine pu 15 (some 2) #[true, true, true, true, true, true, true, true, true, true, true, true, true, true, true, true, false, false, false] ?_
 refine one_ (i := 16) (N := none) #[true, true, true, true, true, true, true, true, true, true, true, true, true, true, true, true, true, false, false] rfl rfl (one_of HT_.out (by kernel_rfl)) (by decide) (fun K hK => ?_)
 have hs24 : w23.cell? ⟨gb204, 0, none⟩ = some (.int .i64 0) := ec BK204
 have hfs24 := blk_frozen BK204.out 0
 have hns24_1 := NB212_204.out
 have hms24_1 := NB204_212.out
 have hs25 : w23.cell? ⟨gb204, 1, none⟩ = some (.bool false) := ec BK204
 have hfs25 := blk_frozen BK204.out 1
 have hns25_1 := NB212_204.out
 have hms25_1 := NB204_212.out
 have hs26 : w23.cell? ⟨gb204, 2, none⟩ = some (.int .i64 0) := ec BK204
 have hfs26 := blk_frozen BK204.out 2
 have hns26_1 := NB212_204.out
 have hms26_1 := NB204_212.out
 refine skip_ (w1 := ?_) (by rfl) rfl ?_ ?_
 rotate_left
 ·go_simp
  rfl
 refine hK.out _ _ ⟨((cell_far (p := ⟨gb204, _, none⟩) NB212_204.out _).trans (((cell_far (p := ⟨gb204, _, none⟩) NB212_204.out _).trans (((cell_far (p := ⟨gb204, _, none⟩) NB212_204.out _).trans (hHeld.1)))))), ((cell_far (p := ⟨gb204, _, none⟩) NB212_204.out _).trans (((cell_far (p := ⟨gb204, _, none⟩) NB212_204.out _).trans (((cell_far (p := ⟨gb204, _, none⟩) NB212_204.out _).trans (hHeld.2.1)))))), ((cell_far (p := ⟨gb204, _, none⟩) NB212_204.out _).trans (((cell_far (p := ⟨gb204, _, none⟩) NB212_204.out _).trans (((cell_far (p := ⟨gb204, _, none⟩) NB212_204.out _).trans (hHeld.2.2))))))⟩ (fun hHeld => ?_)
 clear hK K
 refine pu 17 (some 4) #[true, true, true, true, true, true, true, true, true, true, true, true, true, true, true, true, true, true, false] ?_
 refine pu 18 (some 5) #[true, true, true, true, true, true, true, true, true, true, true, true, true, true, true, true, true, true, true] ?_
 refine done_ (done_of HT_.out (by kernel_rfl)) ?_
 try go_wp2
 refine bodyPost_ret (results_list (rs := [.tmp 2, .cell 3 25, .tmp 4, .tmp 5]) rfl (by simp) (.tmp (.cell gb204 25 #[.int .i64 t207, .bool t208, .int .i64 t209] (0, 0) _ rfl (by (with_reducible repeat (first | refine blk_drewN ?_ _ | refine blk_drew ?_ | refine blk_alloc ?_ _)); refine blk_put (cs := #[.int .i64 t207, .bool t208, .int .i64 0]) ?_ 2 _ rfl; (with_reducible repeat (first | refine blk_drewN ?_ _ | refine blk_drew ?_ | refine blk_alloc ?_ _)); refine blk_put (cs := #[.int .i64 t207, .bool false, .int .i64 0]) ?_ 1 _ rfl; (with_reducible repeat (first | refine blk_drewN ?_ _ | refine blk_drew ?_ | refine blk_alloc ?_ _)); refine blk_put (cs := #[.int .i64 0, .bool false, .int .i64 0]) ?_ 0 _ rfl; (with_reducible repeat (first | refine blk_drewN ?_ _ | refine blk_drew ?_ | refine blk_alloc ?_ _)); exact BK204.out) Try.underlying25 rfl (by kernel_rfl) (.tmp (.tmp .nil))))) rfl ?_
 exact ⟨rs, by repeat (first | (with_reducible first | exact HB.out | apply below_alloc | apply pw_below_drewN | apply below_drew1 | refine below_set ?_ (IsS48.ge HI205.out) | refine below_set ?_ GE204.out | refine below_set ?_ GE212.out) | exact HB.out)⟩

end Go.Proofs.Ytlhhbkdeginhoaa.PFnSignalsGo
