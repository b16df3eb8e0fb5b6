-- Laid by xprint, a program of this session that runs over the kit's print.
import Derived.Test.YtlhhbkdeginhoaaPFnSignalsGox0
import Derived.Test.YtlhhbkdeginhoaaPFnSignalsGox1
namespace Go.Proofs.Ytlhhbkdeginhoaa.PFnSignalsGo
open Go.RowKit Go.Proofs.YtlhhbkdeginhoaaW.PrintWords Go.Proofs.YtlhhbkdeginhoaaW.PrintLast Go.Proofs.YtlhhbkdeginhoaaW.PrintMore Go.Proofs.Ytlhhbkdeginhoaa.Sq
attribute [local go_sem] max2_int min2_int max_two min_two max_three min_three max_four min_four   -- for this text's walks alone
set_option linter.unusedVariables false
set_option linter.unusedSimpArgs false

/-! ### spec_DrawFirstMeeting: function 13 -/
def spec_DrawFirstMeeting.f (l0 : List Int) : Option (Int × Int × Bool × Int × Int × Bool × Int) := (spec_l1Cur_signal.f l0 0 0).bind fun bt253 => ((spec_l1Cur_sureSignal.f l0 bt253.2.2.2.2.1 bt253.2.2.2.2.2 bt253.1).bind fun bt260 => (some (bt253.1, bt253.2.1, bt253.2.2.1, bt253.2.2.2.1, bt260.1, bt260.2.1, bt260.2.2.1)))
def spec_DrawFirstMeeting.T3 : Bool × List (List Nat × List Nat) := (true, [([], []), ([], []), ([], []), ([], []), ([2, 3], [2, 3]), ([0, 4, 0], [0]), ([1, 5, 0, 1, 5], [1]), ([4, 6, 0, 1, 2, 3, 4, 5, 6], [4])])
def spec_DrawFirstMeeting.B3 : List Nat := [0, 0, 0, 0, 12, 29, 63, 127]
theorem spec_DrawFirstMeeting.tab3 : rtab .any (opsOf Try.f13 3) = spec_DrawFirstMeeting.T3 := by kernel_rfl
theorem spec_DrawFirstMeeting.bits3 : waitsOk spec_DrawFirstMeeting.T3.2 spec_DrawFirstMeeting.B3 = true := by kernel_rfl
set_option maxHeartbeats 8000000 in
set_option maxRecDepth 100000 in
theorem spec_DrawFirstMeeting.calls (A0 : Option Addr) (c0 : Nat) (l0 : List Int) (r1 : Int) (r2 : Int) (r3 : Bool) (r4 : Int) (r5 : Int) (r6 : Bool) (r7 : Int) (w : World) (hr0 : Kd.C (Kd.int .u8) w A0 l0.length l0) (hc0 : l0.length ≤ c0) (h : spec_DrawFirstMeeting.f l0 = some (r1, r2, r3, r4, r5, r6, r7)) :
  Calls Try.prog 13 #[.slice A0 l0.length c0] w fun e w' => e = .returned (.tuple #[.int .i64 r1, .agg #[.int .i64 r2, .bool r3, .int .i64 r4], .agg #[.int .i64 r5, .bool r6, .int .i64 r7]]) ∧ Below w.heap.size w w' := by
 have hu25 := Try.underlying25
 have hu48 := Try.underlying48
 have HR0 := Aside0.mk hr0
 have HC0 := Aside0.mk hc0
 clear hr0 hc0
 have HB := Aside0.mk (Below.refl w.heap.size w)
 unfold spec_DrawFirstMeeting.f at h
 have H := h
 clear h
 replace H := Option.bind_eq_some_iff.mp H
 obtain ⟨⟨t253, t254, t255, t256, t257, t258⟩, A20, H⟩ := H
 (try dsimp only at H)
 have A2 := Aside0.mk A20
 clear A20
 replace H := Option.bind_eq_some_iff.mp H
 obtain ⟨⟨t260, t261, t262, t263, t264⟩, A30, H⟩ := H
 (try dsimp only at H)
 have A3 := Aside0.mk A30
 clear A30
 simp only [Option.some.injEq, Prod.mk.injEq] at H
 obtain ⟨rfl, rfl, rfl, rfl, rfl, rfl, rfl⟩ := H
 go_enter Try.func13, Try.ntmps13
 try go_wp2_with (first | ((with_reducible refine gate_dst (N := 3) rfl ?_); refine bx 3 25 #[.int .i64 0, .bool false, .int .i64 0] ?_; intro gb250 hg w4 hbox hb; have BK250 := hbox; have GW250 := gs hg; have GE250 := gs hg; replace HB := bs hb; clear hb hbox hg) | ((with_reducible refine gate_dst (N := 4) rfl ?_); refine bx 4 25 #[.int .i64 0, .bool false, .int .i64 0] ?_; intro gb251 hg w5 hbox hb; have BK251 := hbox; have GW251 := gs hg; have GE251 := gs hg; replace HB := bs hb; have NB250_251 := nl BK250 hg; have NB251_250 := ng BK250 hg; replace BK250 := nk BK250 hb; clear hb hbox hg) | ((with_reducible refine gate_dst (N := 10) rfl ?_); refine box_event ?hg (N := 10) ?hd (cs := #[.slice A0 l0.length c0, .int .i64 0, .int .u64 0]) (t := 48) ?hr ?_; (case hd => rfl); (case hg => rfl); (case hr => first | (go_simp; done) | (go_simp; rfl)); intro gb252 hg w6 hbox hb; have GW252 := gs hg; have GE252 := gs hg; have NB250_252 := nl BK250 hg; have NB252_250 := ng BK250 hg; replace BK250 := nk BK250 hb; have NB251_252 := nl BK251 hg; have NB252_251 := ng BK251 hg; replace BK251 := nk BK251 hb; have HI252 := Aside0.mk ((show IsS48 w _ gb252 l0 0 0 from ⟨_, _, hbox, (by rw [hg]; exact (below_size bw)), HR0.out⟩)); replace HB := bs hb; clear hb hbox hg) | ((with_reducible refine gate_callee (f := 21) rfl ?_); refine gl (some 13) Try.func21 #[.pointer (some ⟨gb252, 0, none⟩)] ?_; (with_reducible refine (spec_l1Cur_signal.calls gb252 l0 0 0 t253 t254 t255 t256 t257 t258 w _ ?side1 ?side2 A2.out).mono ?_); (case side1 => repeat (first | (with_reducible first | exact HI252.out | apply IsS48.alloc | apply IsS48.drewN | apply IsS48.drew | apply IsS48.set_1 | apply IsS48.set_2 | refine IsS48.far ?_ NB252_250.out _ | refine IsS48.far ?_ NB252_251.out _) | exact HI252.out)); (case side2 => repeat (first | (with_reducible first | exact HB.out | apply below_alloc | apply pw_below_drewN | apply below_drew1 | refine below_set ?_ (IsS48.ge HI252.out) | refine below_set ?_ GE250.out | refine below_set ?_ GE251.out) | exact HB.out)); rintro e w7 ⟨rfl, hi, hb, hk⟩; refine ⟨_, rfl, ?_⟩; replace BK250 := Aside0.mk (KeepBut.blk hk (g' := gb250) (o := .cells #[.int .i64 0, .bool false, .int .i64 0] 25 (0, 0)) (pk BK250) NB250_252.out (by simp)); replace BK251 := Aside0.mk (KeepBut.blk hk (g' := gb251) (o := .cells #[.int .i64 0, .bool false, .int .i64 0] 25 (0, 0)) (pk BK251) NB251_252.out (by simp)); replace HB := Aside0.mk (hb); replace HI252 := Aside0.mk (hi); (try clear hb)) | ((with_reducible refine gate_dst (N := 7) rfl ?_); refine bx 7 25 #[.int .i64 0, .bool false, .int .i64 0] ?_; intro gb259 hg w8 hbox hb; have BK259 := hbox; have GW259 := Aside0.mk ((by rw [hg]; exact (below_size (by repeat (first | (with_reducible first | exact HB.out | apply below_alloc | apply pw_below_drewN | apply below_drew1 | refine below_set ?_ (IsS48.ge HI252.out) | refine below_set ?_ GE250.out | refine below_set ?_ GE251.out) | exact HB.out))) : w.heap.size ≤ gb259)); have GE259 := Aside0.mk ((by rw [hg]; exact (below_size (by repeat (first | (with_reducible first | exact HB.out | apply below_alloc | apply pw_below_drewN | apply below_drew1 | refine below_set ?_ (IsS48.ge HI252.out) | refine below_set ?_ GE250.out | refine below_set ?_ GE251.out) | exact HB.out))) : w.heap.size ≤ gb259)); replace HB := Aside0.mk (below_step (by repeat (first | (with_reducible first | exact HB.out | apply below_alloc | apply pw_below_drewN | apply below_drew1 | refine below_set ?_ (IsS48.ge HI252.out) | refine below_set ?_ GE250.out | refine below_set ?_ GE251.out) | exact HB.out)) hb); have NB250_259 := nl BK250 hg; have NB259_250 := ng BK250 hg; replace BK250 := nk BK250 hb; have NB251_259 := nl BK251 hg; have NB259_251 := ng BK251 hg; replace BK251 := nk BK251 hb; have NB252_259 := Aside0.mk ((by rw [hg]; exact Nat.ne_of_lt (IsS48.lt (show IsS48 w _ gb252 l0 t257 t258 from by repeat (first | (with_reducible first | exact HI252.out | apply IsS48.alloc | apply IsS48.drewN | apply IsS48.drew | apply IsS48.set_1 | apply IsS48.set_2 | refine IsS48.far ?_ NB252_250.out _ | refine IsS48.far ?_ NB252_251.out _) | exact HI252.out))) : gb252 ≠ gb259)); have NB259_252 := Aside0.mk ((by rw [hg]; exact Nat.ne_of_gt (IsS48.lt (show IsS48 w _ gb252 l0 t257 t258 from by repeat (first | (with_reducible first | exact HI252.out | apply IsS48.alloc | apply IsS48.drewN | apply IsS48.drew | apply IsS48.set_1 | apply IsS48.set_2 | refine IsS48.far ?_ NB252_250.out _ | refine IsS48.far ?_ NB252_251.out _) | exact HI252.out))) : gb259 ≠ gb252)); replace HI252 := Aside0.mk (IsS48.below (by repeat (first | (with_reducible first | exact HI252.out | apply IsS48.alloc | apply IsS48.drewN | apply IsS48.drew | apply IsS48.set_1 | apply IsS48.set_2 | refine IsS48.far ?_ NB252_250.out _ | refine IsS48.far ?_ NB252_251.out _) | exact HI252.out)) hb); clear hb hbox hg; have hnb9 := NB259_250.out; have hnc9 := NB250_259.out; have hnb10 := NB259_251.out; have hnc10 := NB251_259.out; have hnb11 := NB259_252.out; have hnc11 := NB252_259.out; have hcz12_0 := bc BK259 0 (.int .i64 0); have hcz12_1 := bc BK259 1 (.bool false); have hcz12_2 := bc BK259 2 (.int .i64 0); have hfz12_0 := blk_frozen BK259.out 0; have hfz12_1 := blk_frozen BK259.out 1; have hfz12_2 := blk_frozen BK259.out 2))
 have n0_ : Aside0 ((((w8.setCell ⟨gb259, 0, none⟩ (.int .i64 t254)).setCell ⟨gb259, 1, none⟩ (.bool t255)).setCell ⟨gb259, 2, none⟩ (.int .i64 t256)).heap[gb250]? = some (.cells #[.int .i64 0, .bool false, .int .i64 0] 25 (0, 0))) := ⟨by (with_reducible repeat (first | refine blk_drewN ?_ _ | refine blk_drew ?_ | refine blk_alloc ?_ _)); refine blk_far ?_ NB250_259.out _; (with_reducible repeat (first | refine blk_drewN ?_ _ | refine blk_drew ?_ | refine blk_alloc ?_ _)); refine blk_far ?_ NB250_259.out _; (with_reducible repeat (first | refine blk_drewN ?_ _ | refine blk_drew ?_ | refine blk_alloc ?_ _)); refine blk_far ?_ NB250_259.out _; (with_reducible repeat (first | refine blk_drewN ?_ _ | refine blk_drew ?_ | refine blk_alloc ?_ _)); exact BK250.out⟩
 have n1_ : Aside0 ((((w8.setCell ⟨gb259, 0, none⟩ (.int .i64 t254)).setCell ⟨gb259, 1, none⟩ (.bool t255)).setCell ⟨gb259, 2, none⟩ (.int .i64 t256)).heap[gb251]? = some (.cells #[.int .i64 0, .bool false, .int .i64 0] 25 (0, 0))) := ⟨by (with_reducible repeat (first | refine blk_drewN ?_ _ | refine blk_drew ?_ | refine blk_alloc ?_ _)); refine blk_far ?_ NB251_259.out _; (with_reducible repeat (first | refine blk_drewN ?_ _ | refine blk_drew ?_ | refine blk_alloc ?_ _)); refine blk_far ?_ NB251_259.out _; (with_reducible repeat (first | refine blk_drewN ?_ _ | refine blk_drew ?_ | refine blk_alloc ?_ _)); refine blk_far ?_ NB251_259.out _; (with_reducible repeat (first | refine blk_drewN ?_ _ | refine blk_drew ?_ | refine blk_alloc ?_ _)); exact BK251.out⟩
 have n2_ : Aside0 ((((w8.setCell ⟨gb259, 0, none⟩ (.int .i64 t254)).setCell ⟨gb259, 1, none⟩ (.bool t255)).setCell ⟨gb259, 2, none⟩ (.int .i64 t256)).heap[gb259]? = some (.cells #[.int .i64 t254, .bool t255, .int .i64 t256] 25 (0, 0))) := ⟨by (with_reducible repeat (first | refine blk_drewN ?_ _ | refine blk_drew ?_ | refine blk_alloc ?_ _)); refine blk_put (cs := #[.int .i64 t254, .bool t255, .int .i64 0]) ?_ 2 _ rfl; (with_reducible repeat (first | refine blk_drewN ?_ _ | refine blk_drew ?_ | refine blk_alloc ?_ _)); refine blk_put (cs := #[.int .i64 t254, .bool false, .int .i64 0]) ?_ 1 _ rfl; (with_reducible repeat (first | refine blk_drewN ?_ _ | refine blk_drew ?_ | refine blk_alloc ?_ _)); refine blk_put (cs := #[.int .i64 0, .bool false, .int .i64 0]) ?_ 0 _ rfl; (with_reducible repeat (first | refine blk_drewN ?_ _ | refine blk_drew ?_ | refine blk_alloc ?_ _)); exact BK259.out⟩
 have n3_ : Aside0 (IsS48 w (((w8.setCell ⟨gb259, 0, none⟩ (.int .i64 t254)).setCell ⟨gb259, 1, none⟩ (.bool t255)).setCell ⟨gb259, 2, none⟩ (.int .i64 t256)) gb252 l0 t257 t258) := ⟨by repeat (first | (with_reducible first | exact HI252.out | apply IsS48.alloc | apply IsS48.drewN | apply IsS48.drew | apply IsS48.set_1 | apply IsS48.set_2 | refine IsS48.far ?_ NB252_250.out _ | refine IsS48.far ?_ NB252_251.out _ | refine IsS48.far ?_ NB252_259.out _) | exact HI252.out)⟩
 have n4_ : Aside0 (Below w.heap.size w (((w8.setCell ⟨gb259, 0, none⟩ (.int .i64 t254)).setCell ⟨gb259, 1, none⟩ (.bool t255)).setCell ⟨gb259, 2, none⟩ (.int .i64 t256))) := ⟨by repeat (first | (with_reducible first | exact HB.out | apply below_alloc | apply pw_below_drewN | apply below_drew1 | refine below_set ?_ (IsS48.ge HI252.out) | refine below_set ?_ GE250.out | refine below_set ?_ GE251.out | refine below_set ?_ GE259.out) | exact HB.out)⟩
 (try clear BK250)
 (try clear BK251)
 (try clear BK259)
 (try clear HI252)
 (try clear HB)
 generalize (((w8.setCell ⟨gb259, 0, none⟩ (.int .i64 t254)).setCell ⟨gb259, 1, none⟩ (.bool t255)).setCell ⟨gb259, 2, none⟩ (.int .i64 t256)) = w13 at n0_ n1_ n2_ n3_ n4_ ⊢
 have BK250 := n0_
 have BK251 := n1_
 have BK259 := n2_
 have HI252 := n3_
 have HB := n4_
 clear n0_ n1_ n2_ n3_ n4_
 replace BK250 := Aside0.mk (blk_drew BK250.out)
 replace BK251 := Aside0.mk (blk_drew BK251.out)
 replace BK259 := Aside0.mk (blk_drew BK259.out)
 replace HI252 := Aside0.mk (IsS48.drew HI252.out)
 replace HB := Aside0.mk (below_drew1 HB.out)
 refine start_ (n := 8) (S := fun w' => w'.cell? ⟨gb259, 0, none⟩ = some (.int .i64 t254) ∧ w'.cell? ⟨gb259, 1, none⟩ = some (.bool t255) ∧ w'.cell? ⟨gb259, 2, none⟩ = some (.int .i64 t256)) (ds := []) #[false, false, false, false, false, false, false, false] (by kernel_rfl) rfl rfl ⟨ec BK259, ec BK259, ec BK259⟩ (fun hHeld => ?_); refine with_tabW spec_DrawFirstMeeting.tab3 spec_DrawFirstMeeting.bits3 (fun HT_ HW_ => ?_)
 generalize w13.drew = w14 at BK250 BK251 BK259 HI252 HB hHeld ⊢
 refine pu 0 (some 16) #[true, false, false, false, false, false, false, false] ?_
 refine pu 2 (some 18) #[true, false, true, false, false, false, false, false] ?_
 refine pu 3 (some 19) #[true, false, true, true, false, false, false, false] ?_
 refine take_ (i := 1) (N := some 17) (v := ?_) (a' := ?_) #[true, true, true, true, false, false, false, false] rfl rfl (take_ofW HT_.out HW_.out (by kernel_rfl)) (fun _ _ _ h => h) (Or.inl ⟨by rfl, ?_⟩) hHeld ?_ ?_
 rotate_left
 ·rintro w' ⟨s0, s1, s2⟩
  go_simp
  with_reducible rfl
 rotate_left
 ·simp only [Act.put, List.setIfInBounds_toArray, List.set_cons_zero, List.set_cons_succ, i64_w, i32_w]
  rfl
 refine one_ (i := 4) (N := some 20) #[true, true, true, true, true, false, false, false] rfl rfl (one_of HT_.out (by kernel_rfl)) (by decide) (fun K hK => ?_)
 refine goes_ Try.func37 (by kernel_rfl) rfl #[.pointer (some ⟨gb252, 0, none⟩), .int .i64 t253] (by rfl) rfl rfl (by (try simp only [List.map_toArray, List.map_cons, List.map_nil]); first | done | rfl | (simp only [List.length_drop, List.length_take]; rfl)) ?_
 with_reducible refine (spec_l1Cur_sureSignal.calls gb252 l0 t257 t258 t253 t260 t261 t262 t263 t264 w _ ?side1 ?side2 A3.out).mono ?_
 (case side1 => repeat (first | (with_reducible first | exact HI252.out | apply IsS48.alloc | apply IsS48.drewN | apply IsS48.drew | apply IsS48.set_1 | apply IsS48.set_2 | refine IsS48.far ?_ NB252_250.out _ | refine IsS48.far ?_ NB252_251.out _ | refine IsS48.far ?_ NB252_259.out _) | exact HI252.out))
 (case side2 => repeat (first | (with_reducible first | exact HB.out | apply below_alloc | apply pw_below_drewN | apply below_drew1 | refine below_set ?_ (IsS48.ge HI252.out) | refine below_set ?_ GE250.out | refine below_set ?_ GE251.out | refine below_set ?_ GE259.out) | exact HB.out))
 rintro e w15 ⟨rfl, hi, hb, hk⟩
 refine ⟨_, rfl, ?_⟩
 replace BK250 := Aside0.mk (KeepBut.blk hk (g' := gb250) (o := .cells #[.int .i64 0, .bool false, .int .i64 0] 25 (0, 0)) (pk BK250) NB250_252.out (by simp))
 replace BK251 := Aside0.mk (KeepBut.blk hk (g' := gb251) (o := .cells #[.int .i64 0, .bool false, .int .i64 0] 25 (0, 0)) (pk BK251) NB251_252.out (by simp))
 replace BK259 := Aside0.mk (KeepBut.blk hk (g' := gb259) (o := .cells #[.int .i64 t254, .bool t255, .int .i64 t256] 25 (0, 0)) (pk BK259) NB259_252.out (by simp))
 replace HB := Aside0.mk (hb)
 replace HI252 := Aside0.mk (hi)
 (try clear hb)
 refine hK.out _ _ ⟨ec BK259, ec BK259, ec BK259⟩ (fun hHeld => ?_)
 clear hK K
 refine nm (some 20) ?_
 refine pu 5 (some 2) #[true, true, true, true, true, true, false, false] ?_
 refine one_ (i := 6) (N := none) #[true, true, true, true, true, true, true, false] rfl rfl (one_of HT_.out (by kernel_rfl)) (by decide) (fun K hK => ?_)
 have hs16 : w15.cell? ⟨gb250, 0, none⟩ = some (.int .i64 0) := ec BK250
 have hfs16 := blk_frozen BK250.out 0
 have hns16_1 := NB251_250.out
 have hns16_2 := NB259_250.out
 have hms16_1 := NB250_251.out
 have hms16_2 := NB250_259.out
 have hs17 : w15.cell? ⟨gb250, 1, none⟩ = some (.bool false) := ec BK250
 have hfs17 := blk_frozen BK250.out 1
 have hns17_1 := NB251_250.out
 have hns17_2 := NB259_250.out
 have hms17_1 := NB250_251.out
 have hms17_2 := NB250_259.out
 have hs18 : w15.cell? ⟨gb250, 2, none⟩ = some (.int .i64 0) := ec BK250
 have hfs18 := blk_frozen BK250.out 2
 have hns18_1 := NB251_250.out
 have hns18_2 := NB259_250.out
 have hms18_1 := NB250_251.out
 have hms18_2 := NB250_259.out
 refine skip_ (w1 := ?_) (by rfl) rfl ?_ ?_
 rotate_left
 ·go_simp
  rfl
 refine hK.out _ _ ⟨((cell_far (p := ⟨gb250, _, none⟩) NB259_250.out _).trans (((cell_far (p := ⟨gb250, _, none⟩) NB259_250.out _).trans (((cell_far (p := ⟨gb250, _, none⟩) NB259_250.out _).trans (hHeld.1)))))), ((cell_far (p := ⟨gb250, _, none⟩) NB259_250.out _).trans (((cell_far (p := ⟨gb250, _, none⟩) NB259_250.out _).trans (((cell_far (p := ⟨gb250, _, none⟩) NB259_250.out _).trans (hHeld.2.1)))))), ((cell_far (p := ⟨gb250, _, none⟩) NB259_250.out _).trans (((cell_far (p := ⟨gb250, _, none⟩) NB259_250.out _).trans (((cell_far (p := ⟨gb250, _, none⟩) NB259_250.out _).trans (hHeld.2.2))))))⟩ (fun hHeld => ?_)
 clear hK K
 refine one_ (i := 7) (N := none) #[true, true, true, true, true, true, true, true] rfl rfl (one_of HT_.out (by kernel_rfl)) (by decide) (fun K hK => ?_)
 have hs19 : w15.cell? ⟨gb251, 0, none⟩ = some (.int .i64 0) := ec BK251
 have hfs19 := blk_frozen BK251.out 0
 have hns19_0 := NB250_251.out
 have hns19_2 := NB259_251.out
 have hms19_0 := NB251_250.out
 have hms19_2 := NB251_259.out
 have hs20 : w15.cell? ⟨gb251, 1, none⟩ = some (.bool false) := ec BK251
 have hfs20 := blk_frozen BK251.out 1
 have hns20_0 := NB250_251.out
 have hns20_2 := NB259_251.out
 have hms20_0 := NB251_250.out
 have hms20_2 := NB251_259.out
 have hs21 : w15.cell? ⟨gb251, 2, none⟩ = some (.int .i64 0) := ec BK251
 have hfs21 := blk_frozen BK251.out 2
 have hns21_0 := NB250_251.out
 have hns21_2 := NB259_251.out
 have hms21_0 := NB251_250.out
 have hms21_2 := NB251_259.out
 refine skip_ (w1 := ?_) (by rfl) rfl ?_ ?_
 rotate_left
 ·go_simp
  rfl
 refine hK.out _ _ ⟨((cell_far (p := ⟨gb251, _, none⟩) NB259_251.out _).trans (((cell_far (p := ⟨gb251, _, none⟩) NB259_251.out _).trans (((cell_far (p := ⟨gb251, _, none⟩) NB259_251.out _).trans (hHeld.1)))))), ((cell_far (p := ⟨gb251, _, none⟩) NB259_251.out _).trans (((cell_far (p := ⟨gb251, _, none⟩) NB259_251.out _).trans (((cell_far (p := ⟨gb251, _, none⟩) NB259_251.out _).trans (hHeld.2.1)))))), ((cell_far (p := ⟨gb251, _, none⟩) NB259_251.out _).trans (((cell_far (p := ⟨gb251, _, none⟩) NB259_251.out _).trans (((cell_far (p := ⟨gb251, _, none⟩) NB259_251.out _).trans (hHeld.2.2))))))⟩ (fun hHeld => ?_)
 clear hK K
 refine done_ (done_of HT_.out (by kernel_rfl)) ?_
 try go_wp2
 refine bodyPost_ret (results_list (rs := [.tmp 2, .cell 3 25, .cell 4 25]) rfl (by simp) (.tmp (.cell gb250 25 #[.int .i64 t254, .bool t255, .int .i64 t256] (0, 0) _ rfl (by (with_reducible repeat (first | refine blk_drewN ?_ _ | refine blk_drew ?_ | refine blk_alloc ?_ _)); refine blk_far ?_ NB250_251.out _; (with_reducible repeat (first | refine blk_drewN ?_ _ | refine blk_drew ?_ | refine blk_alloc ?_ _)); refine blk_far ?_ NB250_251.out _; (with_reducible repeat (first | refine blk_drewN ?_ _ | refine blk_drew ?_ | refine blk_alloc ?_ _)); refine blk_far ?_ NB250_251.out _; (with_reducible repeat (first | refine blk_drewN ?_ _ | refine blk_drew ?_ | refine blk_alloc ?_ _)); refine blk_put (cs := #[.int .i64 t254, .bool t255, .int .i64 0]) ?_ 2 _ rfl; (with_reducible repeat (first | refine blk_drewN ?_ _ | refine blk_drew ?_ | refine blk_alloc ?_ _)); refine blk_put (cs := #[.int .i64 t254, .bool false, .int .i64 0]) ?_ 1 _ rfl; (with_reducible repeat (first | refine blk_drewN ?_ _ | refine blk_drew ?_ | refine blk_alloc ?_ _)); refine blk_put (cs := #[.int .i64 0, .bool false, .int .i64 0]) ?_ 0 _ rfl; (with_reducible repeat (first | refine blk_drewN ?_ _ | refine blk_drew ?_ | refine blk_alloc ?_ _)); exact BK250.out) Try.underlying25 rfl (by kernel_rfl) (.cell gb251 25 #[.int .i64 t260, .bool t261, .int .i64 t262] (0, 0) _ rfl (by (with_reducible repeat (first | refine blk_drewN ?_ _ | refine blk_drew ?_ | refine blk_alloc ?_ _)); refine blk_put (cs := #[.int .i64 t260, .bool t261, .int .i64 0]) ?_ 2 _ rfl; (with_reducible repeat (first | refine blk_drewN ?_ _ | refine blk_drew ?_ | refine blk_alloc ?_ _)); refine blk_put (cs := #[.int .i64 t260, .bool false, .int .i64 0]) ?_ 1 _ rfl; (with_reducible repeat (first | refine blk_drewN ?_ _ | refine blk_drew ?_ | refine blk_alloc ?_ _)); refine blk_put (cs := #[.int .i64 0, .bool false, .int .i64 0]) ?_ 0 _ rfl; (with_reducible repeat (first | refine blk_drewN ?_ _ | refine blk_drew ?_ | refine blk_alloc ?_ _)); refine blk_far ?_ NB251_250.out _; (with_reducible repeat (first | refine blk_drewN ?_ _ | refine blk_drew ?_ | refine blk_alloc ?_ _)); refine blk_far ?_ NB251_250.out _; (with_reducible repeat (first | refine blk_drewN ?_ _ | refine blk_drew ?_ | refine blk_alloc ?_ _)); refine blk_far ?_ NB251_250.out _; (with_reducible repeat (first | refine blk_drewN ?_ _ | refine blk_drew ?_ | refine blk_alloc ?_ _)); exact BK251.out) Try.underlying25 rfl (by kernel_rfl) .nil)))) rfl ?_
 exact ⟨rs, by repeat (first | (with_reducible first | exact HB.out | apply below_alloc | apply pw_below_drewN | apply below_drew1 | refine below_set ?_ (IsS48.ge HI252.out) | refine below_set ?_ GE250.out | refine below_set ?_ GE251.out | refine below_set ?_ GE259.out) | exact HB.out)⟩

end Go.Proofs.Ytlhhbkdeginhoaa.PFnSignalsGo
