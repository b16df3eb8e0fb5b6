-- Laid by xprint, a program of this session that runs over the kit's print.
import Derived.Test.YtmhbcfdodcnjmaaGreatDoorPFnSignalsReachx0
import Derived.Test.YtmhbcfdodcnjmaaGreatDoorPFnSignalsReachx3
import Derived.Test.YtmhbcfdodcnjmaaGreatDoorPFnSignalsReachx4
import Derived.Test.YtmhbcfdodcnjmaaGreatDoorPFnSignalsReachx12
import Derived.Test.YtmhbcfdodcnjmaaGreatDoorPFnSignalsReachx13
namespace Go.Proofs.YtmhbcfdodcnjmaaGreatDoor.PFnSignalsReach
open Go.RowKit Go.Proofs.YtmhbcfdodcnjmaaGreatDoorW.PrintWords Go.Proofs.YtmhbcfdodcnjmaaGreatDoorW.PrintLast Go.Proofs.YtmhbcfdodcnjmaaGreatDoorW.PrintMore Go.Proofs.YtmhbcfdodcnjmaaGreatDoor.Sq
attribute [local go_sem] max2_int min2_int max_two min_two max_three min_three max_four min_four   -- for this text's walks alone
set_option linter.unusedVariables false
set_option linter.unusedSimpArgs false

/-! ### impl_ParseSignal: function 35 -/
def impl_ParseSignal.f (a0 : ByteArray) : Option (Int × Bool × Int × Bool) := (strings_IndexAny.f a0 (⟨#[60, 62]⟩ : ByteArray)).bind fun t546 => (if t546 < 0 then (some (0, false, 0, false)) else (if 0 ≤ t546 then (if t546 ≤ (a0.size : Int) then ((strconv_Atoi.f (a0.extract 0 (t546 : Int).toNat)).bind fun bt547 => (if 0 ≤ (wrap64 (t546 + 1)) then (if (wrap64 (t546 + 1)) ≤ (a0.size : Int) then ((strconv_Atoi.f (a0.extract ((wrap64 (t546 + 1)) : Int).toNat a0.size)).bind fun bt549 => (if t546 < (a0.size : Int) then (if bt547.2.isNone = true then (if bt549.2.isNone = true then ((impl_isSignal.f 100 bt547.1 ((bt a0 t546) == 60) bt549.1).bind fun t554 => (if t554 = true then ((impl_signalText.f bt547.1 ((bt a0 t546) == 60) bt549.1).bind fun t555 => (if t555.toList = a0.toList then (some (bt547.1, ((bt a0 t546) == 60), bt549.1, true)) else (some (0, false, 0, false)))) else (some (0, false, 0, false)))) else (some (0, false, 0, false))) else (some (0, false, 0, false))) else (none))) else (none)) else (none))) else (none)) else (none)))
set_option maxHeartbeats 8000000 in
set_option maxRecDepth 100000 in
theorem impl_ParseSignal.calls (a0 : ByteArray) (r1 : Int) (r2 : Bool) (r3 : Int) (r4 : Bool) (w : World) (hm : Dr.Tab w) (h : impl_ParseSignal.f a0 = some (r1, r2, r3, r4)) :
  Calls Tryz.prog 35 #[.string a0] w fun e w' => e = .returned (.tuple #[.agg #[.int .i64 r1, .bool r2, .int .i64 r3], .bool r4]) ∧ Below w.heap.size w w' := by
 have hu36 := Tryz.underlying36
 have hu85 := Tryz.underlying85
 have HB := Aside0.mk (Below.refl w.heap.size w)
 have HMM := Aside0.mk hm
 clear hm
 unfold impl_ParseSignal.f at h
 have H := h
 clear h
 replace H := Option.bind_eq_some_iff.mp H
 obtain ⟨t546, A20, H⟩ := H
 (try dsimp only at H)
 have A2 := Aside0.mk A20
 clear A20
 by_cases c3 : t546 < 0
 ·rw [if_pos c3] at H
  have c3b0 : decide (t546 < 0) = true := decide_eq_true c3
  clear c3
  simp only [Option.some.injEq, Prod.mk.injEq] at H
  obtain ⟨rfl, rfl, rfl, rfl⟩ := H
  go_enter Tryz.func35, Tryz.ntmps35
  go_wp2_with (first | ((with_reducible refine gate_dst (N := 2) rfl ?_); refine bx 2 36 #[.int .i64 0, .bool false, .int .i64 0] ?_; intro gb545 hg w4 hbox hb; have BK545 := hbox; have GW545 := gs hg; have GE545 := gs hg; replace HB := bs hb; clear hb hbox hg) | ((with_reducible refine gate_callee (f := 77) rfl ?_); refine gl (some 11) Tryz.func77 #[.string a0, .string (⟨#[60, 62]⟩ : ByteArray)] ?_; (with_reducible refine (strings_IndexAny.calls a0 (⟨#[60, 62]⟩ : ByteArray) t546 _ A2.out).mono ?_); rintro e w5 ⟨rfl, hb⟩; refine ⟨_, rfl, ?_⟩; replace BK545 := nk BK545 hb; replace HB := bs hb; (try clear hb); have hcz6_0 := bc BK545 0 (.int .i64 0); have hcz6_1 := bc BK545 1 (.bool false); have hcz6_2 := bc BK545 2 (.int .i64 0); have hfz6_0 := blk_frozen BK545.out 0; have hfz6_1 := blk_frozen BK545.out 1; have hfz6_2 := blk_frozen BK545.out 2))
  refine bodyPost_ret (results_ct rfl _ _ gb545 36 #[.int .i64 0, .bool false, .int .i64 0] (0, 0) _ rfl (by (with_reducible repeat (first | refine blk_drewN ?_ _ | refine blk_drew ?_ | refine blk_alloc ?_ _)); refine blk_put (cs := #[.int .i64 0, .bool false, .int .i64 0]) ?_ 2 _ rfl; (with_reducible repeat (first | refine blk_drewN ?_ _ | refine blk_drew ?_ | refine blk_alloc ?_ _)); refine blk_put (cs := #[.int .i64 0, .bool false, .int .i64 0]) ?_ 1 _ rfl; (with_reducible repeat (first | refine blk_drewN ?_ _ | refine blk_drew ?_ | refine blk_alloc ?_ _)); refine blk_put (cs := #[.int .i64 0, .bool false, .int .i64 0]) ?_ 0 _ rfl; (with_reducible repeat (first | refine blk_drewN ?_ _ | refine blk_drew ?_ | refine blk_alloc ?_ _)); exact BK545.out) Tryz.underlying36 rfl (by kernel_rfl)) rfl ?_
  exact ⟨rs, bw⟩
 ·rw [if_neg c3] at H
  have c3b0 : decide (t546 < 0) = false := decide_eq_false c3
  clear c3
  by_cases c7 : 0 ≤ t546
  ·rw [if_pos c7] at H
   have c7b0 := eq_true c7
   have c7b1 : decide (0 ≤ t546) = true := decide_eq_true c7
   clear c7
   by_cases c8 : t546 ≤ (a0.size : Int)
   ·rw [if_pos c8] at H
    have c8b0 := eq_true c8
    have c8b1 : decide (t546 ≤ (a0.size : Int)) = true := decide_eq_true c8
    clear c8
    replace H := Option.bind_eq_some_iff.mp H
    obtain ⟨⟨t547, t548⟩, A90, H⟩ := H
    (try dsimp only at H)
    have A9 := Aside0.mk A90
    clear A90
    obtain ⟨ji10, hji10⟩ : ∃ j_ : Int, (wrap64 (t546 + 1)) = j_ := ⟨_, rfl⟩
    replace H : (if 0 ≤ (ji10) then (if (ji10) ≤ (a0.size : Int) then ((strconv_Atoi.f (a0.extract ((ji10) : Int).toNat a0.size)).bind fun bt549 => (if t546 < (a0.size : Int) then (if t548.isNone = true then (if bt549.2.isNone = true then ((impl_isSignal.f 100 t547 ((bt a0 t546) == 60) bt549.1).bind fun t554 => (if t554 = true then ((impl_signalText.f t547 ((bt a0 t546) == 60) bt549.1).bind fun t555 => (if t555.toList = a0.toList then (some (t547, ((bt a0 t546) == 60), bt549.1, true)) else (some (0, false, 0, false)))) else (some (0, false, 0, false)))) else (some (0, false, 0, false))) else (some (0, false, 0, false))) else (none))) else (none)) else (none)) = some (r1, r2, r3, r4) := by first | (rw [hji10] at H; exact H) | (simp only [hji10] at H ⊢; exact H)
    (try rw [hji10] at A2)
    (try rw [hji10] at A9)
    have hji10w : (IntKind.i64.wrap (t546 + 1)) = ji10 := (i64_w _).trans hji10
    by_cases c11 : 0 ≤ (ji10)
    ·rw [if_pos c11] at H
     have c11b0 := eq_true c11
     have c11b1 : decide (0 ≤ (ji10)) = true := decide_eq_true c11
     clear c11
     by_cases c12 : (ji10) ≤ (a0.size : Int)
     ·rw [if_pos c12] at H
      have c12b0 := eq_true c12
      have c12b1 : decide ((ji10) ≤ (a0.size : Int)) = true := decide_eq_true c12
      clear c12
      replace H := Option.bind_eq_some_iff.mp H
      obtain ⟨⟨t549, t550⟩, A130, H⟩ := H
      (try dsimp only at H)
      have A13 := Aside0.mk A130
      clear A130
      by_cases c14 : t546 < (a0.size : Int)
      ·rw [if_pos c14] at H
       have c14b0 : decide (t546 < (a0.size : Int)) = true := decide_eq_true c14
       clear c14
       rcases t548 with _ | q552
       ·rw [if_pos (show (none : Option Int).isNone = true by rfl)] at H
        try simp only [errW_none, errW_some]
        rcases t550 with _ | q553
        ·rw [if_pos (show (none : Option Int).isNone = true by rfl)] at H
         try simp only [errW_none, errW_some]
         replace H := Option.bind_eq_some_iff.mp H
         obtain ⟨t554, A160, H⟩ := H
         (try dsimp only at H)
         have A16 := Aside0.mk A160
         clear A160
         by_cases c17 : t554 = true
         ·subst c17
          rw [if_pos rfl] at H
          replace H := Option.bind_eq_some_iff.mp H
          obtain ⟨t555, A180, H⟩ := H
          (try dsimp only at H)
          have A18 := Aside0.mk A180
          clear A180
          by_cases c19 : t555.toList = a0.toList
          ·rw [if_pos c19] at H
           have c19b0 : (t555.toList == a0.toList) = true := beq_iff_eq.mpr c19
           have c19b1 : (t555.toList != a0.toList) = false := bne_eq_false_iff_eq.mpr c19
           clear c19
           simp only [Option.some.injEq, Prod.mk.injEq] at H
           obtain ⟨rfl, rfl, rfl, rfl⟩ := H
           go_enter Tryz.func35, Tryz.ntmps35
           go_wp2_with (first | ((with_reducible refine gate_dst (N := 2) rfl ?_); refine bx 2 36 #[.int .i64 0, .bool false, .int .i64 0] ?_; intro gb545 hg w20 hbox hb; have BK545 := hbox; have GW545 := gs hg; have GE545 := gs hg; replace HB := bs hb; clear hb hbox hg) | ((with_reducible refine gate_callee (f := 77) rfl ?_); refine gl (some 11) Tryz.func77 #[.string a0, .string (⟨#[60, 62]⟩ : ByteArray)] ?_; (with_reducible refine (strings_IndexAny.calls a0 (⟨#[60, 62]⟩ : ByteArray) t546 _ A2.out).mono ?_); rintro e w21 ⟨rfl, hb⟩; refine ⟨_, rfl, ?_⟩; replace BK545 := nk BK545 hb; replace HB := bs hb; (try clear hb)) | ((with_reducible refine gate_callee (f := 78) rfl ?_); refine gl (some 19) Tryz.func78 #[.string (a0.extract 0 (t546 : Int).toNat)] ?_; (with_reducible refine (strconv_Atoi.calls (a0.extract 0 (t546 : Int).toNat) t547 none _ ?side1 A9.out).mono ?_); (case side1 => exact Dr.mm HMM); rintro e w22 ⟨q_, rfl, hb⟩; refine ⟨_, rfl, ?_⟩; replace BK545 := nk BK545 hb; replace HB := bs hb; (try clear hb); (try simp only [Option.map_none, Option.map_some, errW_none, errW_some])) | ((with_reducible refine gate_callee (f := 78) rfl ?_); refine goesL_ (some 27) rfl rfl Tryz.func78 (by kernel_rfl) rfl #[.string (a0.extract ((ji10) : Int).toNat a0.size)] rfl (by (try simp only [List.map_toArray, List.map_cons, List.map_nil]); first | done | (simp only [hji10]; rfl) | rfl | (simp only [List.length_drop, List.length_take]; rfl)) ?_; (with_reducible refine (strconv_Atoi.calls (a0.extract ((ji10) : Int).toNat a0.size) t549 none _ ?side1 A13.out).mono ?_); (case side1 => exact Dr.mm HMM); rintro e w23 ⟨q_, rfl, hb⟩; refine ⟨_, rfl, ?_⟩; replace BK545 := nk BK545 hb; replace HB := bs hb; (try clear hb); (try simp only [Option.map_none, Option.map_some, errW_none, errW_some]); have p15 : 0 ≤ (t546 : Int) := of_decide_eq_true asm; have q15 : t546 < (a0.size : Int) := of_decide_eq_true asm; have hx15 := bt_at a0 t546; replace p15 := eq_true p15; replace q15 := eq_true q15) | ((with_reducible refine gate_dst (N := 9) rfl ?_); refine bx 9 36 #[.int .i64 0, .bool false, .int .i64 0] ?_; intro gb551 hg w24 hbox hb; have BK551 := hbox; have GW551 := gs hg; have GE551 := gs hg; replace HB := bs hb; have NB545_551 := nl BK545 hg; have NB551_545 := ng BK545 hg; replace BK545 := nk BK545 hb; clear hb hbox hg; have hnb25 := NB551_545.out; have hnc25 := NB545_551.out; have hcz26_0 := bc BK551 0 (.int .i64 0); have hcz26_1 := bc BK551 1 (.bool false); have hcz26_2 := bc BK551 2 (.int .i64 0); have hfz26_0 := blk_frozen BK551.out 0; have hfz26_1 := blk_frozen BK551.out 1; have hfz26_2 := blk_frozen BK551.out 2) | (go_at_call 70; (with_reducible refine (impl_isSignal.calls 100 t547 ((bt a0 t546) == 60) t549 true _ A16.out).mono ?_); rintro e w27 ⟨rfl, hb⟩; replace BK545 := nf BK545 hb; replace BK551 := Aside0.mk (blk_below (g := gb551) (o := .cells #[.int .i64 t547, .bool ((bt a0 t546) == 60), .int .i64 t549] 36 (0, 0)) (by (with_reducible repeat (first | refine blk_drewN ?_ _ | refine blk_drew ?_ | refine blk_alloc ?_ _)); refine blk_put (cs := #[.int .i64 t547, .bool ((bt a0 t546) == 60), .int .i64 0]) ?_ 2 _ rfl; (with_reducible repeat (first | refine blk_drewN ?_ _ | refine blk_drew ?_ | refine blk_alloc ?_ _)); refine blk_put (cs := #[.int .i64 t547, .bool false, .int .i64 0]) ?_ 1 _ rfl; (with_reducible repeat (first | refine blk_drewN ?_ _ | refine blk_drew ?_ | refine blk_alloc ?_ _)); refine blk_put (cs := #[.int .i64 0, .bool false, .int .i64 0]) ?_ 0 _ rfl; (with_reducible repeat (first | refine blk_drewN ?_ _ | refine blk_drew ?_ | refine blk_alloc ?_ _)); exact BK551.out) hb); replace HB := bs hb; (try clear hb); have hcz28_0 := bc BK551 0 (.int .i64 t547); have hcz28_1 := bc BK551 1 (.bool ((bt a0 t546) == 60)); have hcz28_2 := bc BK551 2 (.int .i64 t549); have hfz28_0 := blk_frozen BK551.out 0; have hfz28_1 := blk_frozen BK551.out 1; have hfz28_2 := blk_frozen BK551.out 2) | (go_at_call 71; (with_reducible refine (impl_signalText.calls t547 ((bt a0 t546) == 60) t549 t555 _ A18.out).mono ?_); rintro e w29 ⟨rfl, hb⟩; replace BK545 := nk BK545 hb; replace BK551 := nk BK551 hb; replace HB := bs hb; (try clear hb); have hcz30_0 := bc BK551 0 (.int .i64 t547); have hcz30_1 := bc BK551 1 (.bool ((bt a0 t546) == 60)); have hcz30_2 := bc BK551 2 (.int .i64 t549); have hfz30_0 := blk_frozen BK551.out 0; have hfz30_1 := blk_frozen BK551.out 1; have hfz30_2 := blk_frozen BK551.out 2; have hcz31_0 := bc BK545 0 (.int .i64 0); have hcz31_1 := bc BK545 1 (.bool false); have hcz31_2 := bc BK545 2 (.int .i64 0); have hfz31_0 := blk_frozen BK545.out 0; have hfz31_1 := blk_frozen BK545.out 1; have hfz31_2 := blk_frozen BK545.out 2))
           refine bodyPost_ret (results_ct rfl _ _ gb545 36 #[.int .i64 t547, .bool ((bt a0 t546) == 60), .int .i64 t549] (0, 0) _ rfl (by (with_reducible repeat (first | refine blk_drewN ?_ _ | refine blk_drew ?_ | refine blk_alloc ?_ _)); refine blk_put (cs := #[.int .i64 t547, .bool ((bt a0 t546) == 60), .int .i64 0]) ?_ 2 _ rfl; (with_reducible repeat (first | refine blk_drewN ?_ _ | refine blk_drew ?_ | refine blk_alloc ?_ _)); refine blk_put (cs := #[.int .i64 t547, .bool false, .int .i64 0]) ?_ 1 _ rfl; (with_reducible repeat (first | refine blk_drewN ?_ _ | refine blk_drew ?_ | refine blk_alloc ?_ _)); refine blk_put (cs := #[.int .i64 0, .bool false, .int .i64 0]) ?_ 0 _ rfl; (with_reducible repeat (first | refine blk_drewN ?_ _ | refine blk_drew ?_ | refine blk_alloc ?_ _)); exact BK545.out) Tryz.underlying36 rfl (by kernel_rfl)) rfl ?_
           exact ⟨by first | rfl | (simp [errW_none, errW_some] <;> rfl) | (simp only [← hji10]; first | rfl | (simp [errW_none, errW_some] <;> rfl)) | (simp [*, errW_none, errW_some] <;> rfl), bw⟩
          ·rw [if_neg c19] at H
           have c19b0 : (t555.toList == a0.toList) = false := beq_eq_false_iff_ne.mpr c19
           have c19b1 : (t555.toList != a0.toList) = true := bne_iff_ne.mpr c19
           simp only [Option.some.injEq, Prod.mk.injEq] at H
           obtain ⟨rfl, rfl, rfl, rfl⟩ := H
           go_enter Tryz.func35, Tryz.ntmps35
           go_wp2_with (first | ((with_reducible refine gate_dst (N := 2) rfl ?_); refine bx 2 36 #[.int .i64 0, .bool false, .int .i64 0] ?_; intro gb545 hg w32 hbox hb; have BK545 := hbox; have GW545 := gs hg; have GE545 := gs hg; replace HB := bs hb; clear hb hbox hg) | ((with_reducible refine gate_callee (f := 77) rfl ?_); refine gl (some 11) Tryz.func77 #[.string a0, .string (⟨#[60, 62]⟩ : ByteArray)] ?_; (with_reducible refine (strings_IndexAny.calls a0 (⟨#[60, 62]⟩ : ByteArray) t546 _ A2.out).mono ?_); rintro e w33 ⟨rfl, hb⟩; refine ⟨_, rfl, ?_⟩; replace BK545 := nk BK545 hb; replace HB := bs hb; (try clear hb)) | ((with_reducible refine gate_callee (f := 78) rfl ?_); refine gl (some 19) Tryz.func78 #[.string (a0.extract 0 (t546 : Int).toNat)] ?_; (with_reducible refine (strconv_Atoi.calls (a0.extract 0 (t546 : Int).toNat) t547 none _ ?side1 A9.out).mono ?_); (case side1 => exact Dr.mm HMM); rintro e w34 ⟨q_, rfl, hb⟩; refine ⟨_, rfl, ?_⟩; replace BK545 := nk BK545 hb; replace HB := bs hb; (try clear hb); (try simp only [Option.map_none, Option.map_some, errW_none, errW_some])) | ((with_reducible refine gate_callee (f := 78) rfl ?_); refine goesL_ (some 27) rfl rfl Tryz.func78 (by kernel_rfl) rfl #[.string (a0.extract ((ji10) : Int).toNat a0.size)] rfl (by (try simp only [List.map_toArray, List.map_cons, List.map_nil]); first | done | (simp only [hji10]; rfl) | rfl | (simp only [List.length_drop, List.length_take]; rfl)) ?_; (with_reducible refine (strconv_Atoi.calls (a0.extract ((ji10) : Int).toNat a0.size) t549 none _ ?side1 A13.out).mono ?_); (case side1 => exact Dr.mm HMM); rintro e w35 ⟨q_, rfl, hb⟩; refine ⟨_, rfl, ?_⟩; replace BK545 := nk BK545 hb; replace HB := bs hb; (try clear hb); (try simp only [Option.map_none, Option.map_some, errW_none, errW_some]); have p15 : 0 ≤ (t546 : Int) := of_decide_eq_true asm; have q15 : t546 < (a0.size : Int) := of_decide_eq_true asm; have hx15 := bt_at a0 t546; replace p15 := eq_true p15; replace q15 := eq_true q15) | ((with_reducible refine gate_dst (N := 9) rfl ?_); refine bx 9 36 #[.int .i64 0, .bool false, .int .i64 0] ?_; intro gb551 hg w36 hbox hb; have BK551 := hbox; have GW551 := gs hg; have GE551 := gs hg; replace HB := bs hb; have NB545_551 := nl BK545 hg; have NB551_545 := ng BK545 hg; replace BK545 := nk BK545 hb; clear hb hbox hg; have hnb37 := NB551_545.out; have hnc37 := NB545_551.out; have hcz38_0 := bc BK551 0 (.int .i64 0); have hcz38_1 := bc BK551 1 (.bool false); have hcz38_2 := bc BK551 2 (.int .i64 0); have hfz38_0 := blk_frozen BK551.out 0; have hfz38_1 := blk_frozen BK551.out 1; have hfz38_2 := blk_frozen BK551.out 2) | (go_at_call 70; (with_reducible refine (impl_isSignal.calls 100 t547 ((bt a0 t546) == 60) t549 true _ A16.out).mono ?_); rintro e w39 ⟨rfl, hb⟩; replace BK545 := nf BK545 hb; replace BK551 := Aside0.mk (blk_below (g := gb551) (o := .cells #[.int .i64 t547, .bool ((bt a0 t546) == 60), .int .i64 t549] 36 (0, 0)) (by (with_reducible repeat (first | refine blk_drewN ?_ _ | refine blk_drew ?_ | refine blk_alloc ?_ _)); refine blk_put (cs := #[.int .i64 t547, .bool ((bt a0 t546) == 60), .int .i64 0]) ?_ 2 _ rfl; (with_reducible repeat (first | refine blk_drewN ?_ _ | refine blk_drew ?_ | refine blk_alloc ?_ _)); refine blk_put (cs := #[.int .i64 t547, .bool false, .int .i64 0]) ?_ 1 _ rfl; (with_reducible repeat (first | refine blk_drewN ?_ _ | refine blk_drew ?_ | refine blk_alloc ?_ _)); refine blk_put (cs := #[.int .i64 0, .bool false, .int .i64 0]) ?_ 0 _ rfl; (with_reducible repeat (first | refine blk_drewN ?_ _ | refine blk_drew ?_ | refine blk_alloc ?_ _)); exact BK551.out) hb); replace HB := bs hb; (try clear hb); have hcz40_0 := bc BK551 0 (.int .i64 t547); have hcz40_1 := bc BK551 1 (.bool ((bt a0 t546) == 60)); have hcz40_2 := bc BK551 2 (.int .i64 t549); have hfz40_0 := blk_frozen BK551.out 0; have hfz40_1 := blk_frozen BK551.out 1; have hfz40_2 := blk_frozen BK551.out 2) | (go_at_call 71; (with_reducible refine (impl_signalText.calls t547 ((bt a0 t546) == 60) t549 t555 _ A18.out).mono ?_); rintro e w41 ⟨rfl, hb⟩; replace BK545 := nk BK545 hb; replace HB := bs hb; (try clear hb); have hcz42_0 := bc BK545 0 (.int .i64 0); have hcz42_1 := bc BK545 1 (.bool false); have hcz42_2 := bc BK545 2 (.int .i64 0); have hfz42_0 := blk_frozen BK545.out 0; have hfz42_1 := blk_frozen BK545.out 1; have hfz42_2 := blk_frozen BK545.out 2))
           refine bodyPost_ret (results_ct rfl _ _ gb545 36 #[.int .i64 0, .bool false, .int .i64 0] (0, 0) _ rfl (by (with_reducible repeat (first | refine blk_drewN ?_ _ | refine blk_drew ?_ | refine blk_alloc ?_ _)); refine blk_put (cs := #[.int .i64 0, .bool false, .int .i64 0]) ?_ 2 _ rfl; (with_reducible repeat (first | refine blk_drewN ?_ _ | refine blk_drew ?_ | refine blk_alloc ?_ _)); refine blk_put (cs := #[.int .i64 0, .bool false, .int .i64 0]) ?_ 1 _ rfl; (with_reducible repeat (first | refine blk_drewN ?_ _ | refine blk_drew ?_ | refine blk_alloc ?_ _)); refine blk_put (cs := #[.int .i64 0, .bool false, .int .i64 0]) ?_ 0 _ rfl; (with_reducible repeat (first | refine blk_drewN ?_ _ | refine blk_drew ?_ | refine blk_alloc ?_ _)); exact BK545.out) Tryz.underlying36 rfl (by kernel_rfl)) rfl ?_
           exact ⟨by first | rfl | (simp [errW_none, errW_some] <;> rfl) | (simp only [← hji10]; first | rfl | (simp [errW_none, errW_some] <;> rfl)) | (simp [*, errW_none, errW_some] <;> rfl), bw⟩
         ·replace c17 := Bool.eq_false_iff.mpr c17
          subst c17
          rw [if_neg (show ¬ (false = true) by decide)] at H
          simp only [Option.some.injEq, Prod.mk.injEq] at H
          obtain ⟨rfl, rfl, rfl, rfl⟩ := H
          go_enter Tryz.func35, Tryz.ntmps35
          go_wp2_with (first | ((with_reducible refine gate_dst (N := 2) rfl ?_); refine bx 2 36 #[.int .i64 0, .bool false, .int .i64 0] ?_; intro gb545 hg w43 hbox hb; have BK545 := hbox; have GW545 := gs hg; have GE545 := gs hg; replace HB := bs hb; clear hb hbox hg) | ((with_reducible refine gate_callee (f := 77) rfl ?_); refine gl (some 11) Tryz.func77 #[.string a0, .string (⟨#[60, 62]⟩ : ByteArray)] ?_; (with_reducible refine (strings_IndexAny.calls a0 (⟨#[60, 62]⟩ : ByteArray) t546 _ A2.out).mono ?_); rintro e w44 ⟨rfl, hb⟩; refine ⟨_, rfl, ?_⟩; replace BK545 := nk BK545 hb; replace HB := bs hb; (try clear hb)) | ((with_reducible refine gate_callee (f := 78) rfl ?_); refine gl (some 19) Tryz.func78 #[.string (a0.extract 0 (t546 : Int).toNat)] ?_; (with_reducible refine (strconv_Atoi.calls (a0.extract 0 (t546 : Int).toNat) t547 none _ ?side1 A9.out).mono ?_); (case side1 => exact Dr.mm HMM); rintro e w45 ⟨q_, rfl, hb⟩; refine ⟨_, rfl, ?_⟩; replace BK545 := nk BK545 hb; replace HB := bs hb; (try clear hb); (try simp only [Option.map_none, Option.map_some, errW_none, errW_some])) | ((with_reducible refine gate_callee (f := 78) rfl ?_); refine goesL_ (some 27) rfl rfl Tryz.func78 (by kernel_rfl) rfl #[.string (a0.extract ((ji10) : Int).toNat a0.size)] rfl (by (try simp only [List.map_toArray, List.map_cons, List.map_nil]); first | done | (simp only [hji10]; rfl) | rfl | (simp only [List.length_drop, List.length_take]; rfl)) ?_; (with_reducible refine (strconv_Atoi.calls (a0.extract ((ji10) : Int).toNat a0.size) t549 none _ ?side1 A13.out).mono ?_); (case side1 => exact Dr.mm HMM); rintro e w46 ⟨q_, rfl, hb⟩; refine ⟨_, rfl, ?_⟩; replace BK545 := nk BK545 hb; replace HB := bs hb; (try clear hb); (try simp only [Option.map_none, Option.map_some, errW_none, errW_some]); have p15 : 0 ≤ (t546 : Int) := of_decide_eq_true asm; have q15 : t546 < (a0.size : Int) := of_decide_eq_true asm; have hx15 := bt_at a0 t546; replace p15 := eq_true p15; replace q15 := eq_true q15) | ((with_reducible refine gate_dst (N := 9) rfl ?_); refine bx 9 36 #[.int .i64 0, .bool false, .int .i64 0] ?_; intro gb551 hg w47 hbox hb; have BK551 := hbox; have GW551 := gs hg; have GE551 := gs hg; replace HB := bs hb; have NB545_551 := nl BK545 hg; have NB551_545 := ng BK545 hg; replace BK545 := nk BK545 hb; clear hb hbox hg; have hnb48 := NB551_545.out; have hnc48 := NB545_551.out; have hcz49_0 := bc BK551 0 (.int .i64 0); have hcz49_1 := bc BK551 1 (.bool false); have hcz49_2 := bc BK551 2 (.int .i64 0); have hfz49_0 := blk_frozen BK551.out 0; have hfz49_1 := blk_frozen BK551.out 1; have hfz49_2 := blk_frozen BK551.out 2) | (go_at_call 70; (with_reducible refine (impl_isSignal.calls 100 t547 ((bt a0 t546) == 60) t549 false _ A16.out).mono ?_); rintro e w50 ⟨rfl, hb⟩; replace BK545 := nf BK545 hb; replace BK551 := Aside0.mk (blk_below (g := gb551) (o := .cells #[.int .i64 t547, .bool ((bt a0 t546) == 60), .int .i64 t549] 36 (0, 0)) (by (with_reducible repeat (first | refine blk_drewN ?_ _ | refine blk_drew ?_ | refine blk_alloc ?_ _)); refine blk_put (cs := #[.int .i64 t547, .bool ((bt a0 t546) == 60), .int .i64 0]) ?_ 2 _ rfl; (with_reducible repeat (first | refine blk_drewN ?_ _ | refine blk_drew ?_ | refine blk_alloc ?_ _)); refine blk_put (cs := #[.int .i64 t547, .bool false, .int .i64 0]) ?_ 1 _ rfl; (with_reducible repeat (first | refine blk_drewN ?_ _ | refine blk_drew ?_ | refine blk_alloc ?_ _)); refine blk_put (cs := #[.int .i64 0, .bool false, .int .i64 0]) ?_ 0 _ rfl; (with_reducible repeat (first | refine blk_drewN ?_ _ | refine blk_drew ?_ | refine blk_alloc ?_ _)); exact BK551.out) hb); replace HB := bs hb; (try clear hb); have hcz51_0 := bc BK545 0 (.int .i64 0); have hcz51_1 := bc BK545 1 (.bool false); have hcz51_2 := bc BK545 2 (.int .i64 0); have hfz51_0 := blk_frozen BK545.out 0; have hfz51_1 := blk_frozen BK545.out 1; have hfz51_2 := blk_frozen BK545.out 2))
          refine bodyPost_ret (results_ct rfl _ _ gb545 36 #[.int .i64 0, .bool false, .int .i64 0] (0, 0) _ rfl (by (with_reducible repeat (first | refine blk_drewN ?_ _ | refine blk_drew ?_ | refine blk_alloc ?_ _)); refine blk_put (cs := #[.int .i64 0, .bool false, .int .i64 0]) ?_ 2 _ rfl; (with_reducible repeat (first | refine blk_drewN ?_ _ | refine blk_drew ?_ | refine blk_alloc ?_ _)); refine blk_put (cs := #[.int .i64 0, .bool false, .int .i64 0]) ?_ 1 _ rfl; (with_reducible repeat (first | refine blk_drewN ?_ _ | refine blk_drew ?_ | refine blk_alloc ?_ _)); refine blk_put (cs := #[.int .i64 0, .bool false, .int .i64 0]) ?_ 0 _ rfl; (with_reducible repeat (first | refine blk_drewN ?_ _ | refine blk_drew ?_ | refine blk_alloc ?_ _)); exact BK545.out) Tryz.underlying36 rfl (by kernel_rfl)) rfl ?_
          exact ⟨by first | rfl | (simp [errW_none, errW_some] <;> rfl) | (simp only [← hji10]; first | rfl | (simp [errW_none, errW_some] <;> rfl)) | (simp [*, errW_none, errW_some] <;> rfl), bw⟩
        ·rw [if_neg (show ¬ (some q553).isNone = true by simp)] at H
         try simp only [errW_none, errW_some]
         simp only [Option.some.injEq, Prod.mk.injEq] at H
         obtain ⟨rfl, rfl, rfl, rfl⟩ := H
         go_enter Tryz.func35, Tryz.ntmps35
         go_wp2_with (first | ((with_reducible refine gate_dst (N := 2) rfl ?_); refine bx 2 36 #[.int .i64 0, .bool false, .int .i64 0] ?_; intro gb545 hg w52 hbox hb; have BK545 := hbox; have GW545 := gs hg; have GE545 := gs hg; replace HB := bs hb; clear hb hbox hg) | ((with_reducible refine gate_callee (f := 77) rfl ?_); refine gl (some 11) Tryz.func77 #[.string a0, .string (⟨#[60, 62]⟩ : ByteArray)] ?_; (with_reducible refine (strings_IndexAny.calls a0 (⟨#[60, 62]⟩ : ByteArray) t546 _ A2.out).mono ?_); rintro e w53 ⟨rfl, hb⟩; refine ⟨_, rfl, ?_⟩; replace BK545 := nk BK545 hb; replace HB := bs hb; (try clear hb)) | ((with_reducible refine gate_callee (f := 78) rfl ?_); refine gl (some 19) Tryz.func78 #[.string (a0.extract 0 (t546 : Int).toNat)] ?_; (with_reducible refine (strconv_Atoi.calls (a0.extract 0 (t546 : Int).toNat) t547 none _ ?side1 A9.out).mono ?_); (case side1 => exact Dr.mm HMM); rintro e w54 ⟨q_, rfl, hb⟩; refine ⟨_, rfl, ?_⟩; replace BK545 := nk BK545 hb; replace HB := bs hb; (try clear hb); (try simp only [Option.map_none, Option.map_some, errW_none, errW_some])) | ((with_reducible refine gate_callee (f := 78) rfl ?_); refine goesL_ (some 27) rfl rfl Tryz.func78 (by kernel_rfl) rfl #[.string (a0.extract ((ji10) : Int).toNat a0.size)] rfl (by (try simp only [List.map_toArray, List.map_cons, List.map_nil]); first | done | (simp only [hji10]; rfl) | rfl | (simp only [List.length_drop, List.length_take]; rfl)) ?_; (with_reducible refine (strconv_Atoi.calls (a0.extract ((ji10) : Int).toNat a0.size) t549 (some q553) _ ?side1 A13.out).mono ?_); (case side1 => exact Dr.mm HMM); rintro e w55 ⟨q_, rfl, hb⟩; refine ⟨_, rfl, ?_⟩; replace BK545 := nk BK545 hb; replace HB := bs hb; (try clear hb); (try simp only [Option.map_none, Option.map_some, errW_none, errW_some]); have p15 : 0 ≤ (t546 : Int) := of_decide_eq_true asm; have q15 : t546 < (a0.size : Int) := of_decide_eq_true asm; have hx15 := bt_at a0 t546; replace p15 := eq_true p15; replace q15 := eq_true q15) | ((with_reducible refine gate_dst (N := 9) rfl ?_); refine bx 9 36 #[.int .i64 0, .bool false, .int .i64 0] ?_; intro gb551 hg w56 hbox hb; have BK551 := hbox; have GW551 := gs hg; have GE551 := gs hg; replace HB := bs hb; have NB545_551 := nl BK545 hg; have NB551_545 := ng BK545 hg; replace BK545 := nk BK545 hb; clear hb hbox hg; have hnb57 := NB551_545.out; have hnc57 := NB545_551.out; have hcz58_0 := bc BK551 0 (.int .i64 0); have hcz58_1 := bc BK551 1 (.bool false); have hcz58_2 := bc BK551 2 (.int .i64 0); have hfz58_0 := blk_frozen BK551.out 0; have hfz58_1 := blk_frozen BK551.out 1; have hfz58_2 := blk_frozen BK551.out 2; have hcz59_0 := bc BK545 0 (.int .i64 0); have hcz59_1 := bc BK545 1 (.bool false); have hcz59_2 := bc BK545 2 (.int .i64 0); have hfz59_0 := blk_frozen BK545.out 0; have hfz59_1 := blk_frozen BK545.out 1; have hfz59_2 := blk_frozen BK545.out 2))
         refine bodyPost_ret (results_ct rfl _ _ gb545 36 #[.int .i64 0, .bool false, .int .i64 0] (0, 0) _ rfl (by (with_reducible repeat (first | refine blk_drewN ?_ _ | refine blk_drew ?_ | refine blk_alloc ?_ _)); refine blk_put (cs := #[.int .i64 0, .bool false, .int .i64 0]) ?_ 2 _ rfl; (with_reducible repeat (first | refine blk_drewN ?_ _ | refine blk_drew ?_ | refine blk_alloc ?_ _)); refine blk_put (cs := #[.int .i64 0, .bool false, .int .i64 0]) ?_ 1 _ rfl; (with_reducible repeat (first | refine blk_drewN ?_ _ | refine blk_drew ?_ | refine blk_alloc ?_ _)); refine blk_put (cs := #[.int .i64 0, .bool false, .int .i64 0]) ?_ 0 _ rfl; (with_reducible repeat (first | refine blk_drewN ?_ _ | refine blk_drew ?_ | refine blk_alloc ?_ _)); refine blk_far ?_ NB545_551.out _; (with_reducible repeat (first | refine blk_drewN ?_ _ | refine blk_drew ?_ | refine blk_alloc ?_ _)); refine blk_far ?_ NB545_551.out _; (with_reducible repeat (first | refine blk_drewN ?_ _ | refine blk_drew ?_ | refine blk_alloc ?_ _)); refine blk_far ?_ NB545_551.out _; (with_reducible repeat (first | refine blk_drewN ?_ _ | refine blk_drew ?_ | refine blk_alloc ?_ _)); exact BK545.out) Tryz.underlying36 rfl (by kernel_rfl)) rfl ?_
         exact ⟨by first | rfl | (simp [errW_none, errW_some] <;> rfl) | (simp only [← hji10]; first | rfl | (simp [errW_none, errW_some] <;> rfl)) | (simp [*, errW_none, errW_some] <;> rfl), bw⟩
       ·rw [if_neg (show ¬ (some q552).isNone = true by simp)] at H
        try simp only [errW_none, errW_some]
        simp only [Option.some.injEq, Prod.mk.injEq] at H
        obtain ⟨rfl, rfl, rfl, rfl⟩ := H
        go_enter Tryz.func35, Tryz.ntmps35
        go_wp2_with (first | ((with_reducible refine gate_dst (N := 2) rfl ?_); refine bx 2 36 #[.int .i64 0, .bool false, .int .i64 0] ?_; intro gb545 hg w60 hbox hb; have BK545 := hbox; have GW545 := gs hg; have GE545 := gs hg; replace HB := bs hb; clear hb hbox hg) | ((with_reducible refine gate_callee (f := 77) rfl ?_); refine gl (some 11) Tryz.func77 #[.string a0, .string (⟨#[60, 62]⟩ : ByteArray)] ?_; (with_reducible refine (strings_IndexAny.calls a0 (⟨#[60, 62]⟩ : ByteArray) t546 _ A2.out).mono ?_); rintro e w61 ⟨rfl, hb⟩; refine ⟨_, rfl, ?_⟩; replace BK545 := nk BK545 hb; replace HB := bs hb; (try clear hb)) | ((with_reducible refine gate_callee (f := 78) rfl ?_); refine gl (some 19) Tryz.func78 #[.string (a0.extract 0 (t546 : Int).toNat)] ?_; (with_reducible refine (strconv_Atoi.calls (a0.extract 0 (t546 : Int).toNat) t547 (some q552) _ ?side1 A9.out).mono ?_); (case side1 => exact Dr.mm HMM); rintro e w62 ⟨q_, rfl, hb⟩; refine ⟨_, rfl, ?_⟩; replace BK545 := nk BK545 hb; replace HB := bs hb; (try clear hb); (try simp only [Option.map_none, Option.map_some, errW_none, errW_some])) | ((with_reducible refine gate_callee (f := 78) rfl ?_); refine goesL_ (some 27) rfl rfl Tryz.func78 (by kernel_rfl) rfl #[.string (a0.extract ((ji10) : Int).toNat a0.size)] rfl (by (try simp only [List.map_toArray, List.map_cons, List.map_nil]); first | done | (simp only [hji10]; rfl) | rfl | (simp only [List.length_drop, List.length_take]; rfl)) ?_; (with_reducible refine (strconv_Atoi.calls (a0.extract ((ji10) : Int).toNat a0.size) t549 t550 _ ?side1 A13.out).mono ?_); (case side1 => exact Dr.mm HMM); rintro e w63 ⟨q_, rfl, hb⟩; refine ⟨_, rfl, ?_⟩; replace BK545 := nk BK545 hb; replace HB := bs hb; (try clear hb); (try simp only [Option.map_none, Option.map_some, errW_none, errW_some]); have p15 : 0 ≤ (t546 : Int) := of_decide_eq_true asm; have q15 : t546 < (a0.size : Int) := of_decide_eq_true asm; have hx15 := bt_at a0 t546; replace p15 := eq_true p15; replace q15 := eq_true q15) | ((with_reducible refine gate_dst (N := 9) rfl ?_); refine bx 9 36 #[.int .i64 0, .bool false, .int .i64 0] ?_; intro gb551 hg w64 hbox hb; have BK551 := hbox; have GW551 := gs hg; have GE551 := gs hg; replace HB := bs hb; have NB545_551 := nl BK545 hg; have NB551_545 := ng BK545 hg; replace BK545 := nk BK545 hb; clear hb hbox hg; have hnb65 := NB551_545.out; have hnc65 := NB545_551.out; have hcz66_0 := bc BK551 0 (.int .i64 0); have hcz66_1 := bc BK551 1 (.bool false); have hcz66_2 := bc BK551 2 (.int .i64 0); have hfz66_0 := blk_frozen BK551.out 0; have hfz66_1 := blk_frozen BK551.out 1; have hfz66_2 := blk_frozen BK551.out 2; have hcz67_0 := bc BK545 0 (.int .i64 0); have hcz67_1 := bc BK545 1 (.bool false); have hcz67_2 := bc BK545 2 (.int .i64 0); have hfz67_0 := blk_frozen BK545.out 0; have hfz67_1 := blk_frozen BK545.out 1; have hfz67_2 := blk_frozen BK545.out 2))
        refine bodyPost_ret (results_ct rfl _ _ gb545 36 #[.int .i64 0, .bool false, .int .i64 0] (0, 0) _ rfl (by (with_reducible repeat (first | refine blk_drewN ?_ _ | refine blk_drew ?_ | refine blk_alloc ?_ _)); refine blk_put (cs := #[.int .i64 0, .bool false, .int .i64 0]) ?_ 2 _ rfl; (with_reducible repeat (first | refine blk_drewN ?_ _ | refine blk_drew ?_ | refine blk_alloc ?_ _)); refine blk_put (cs := #[.int .i64 0, .bool false, .int .i64 0]) ?_ 1 _ rfl; (with_reducible repeat (first | refine blk_drewN ?_ _ | refine blk_drew ?_ | refine blk_alloc ?_ _)); refine blk_put (cs := #[.int .i64 0, .bool false, .int .i64 0]) ?_ 0 _ rfl; (with_reducible repeat (first | refine blk_drewN ?_ _ | refine blk_drew ?_ | refine blk_alloc ?_ _)); refine blk_far ?_ NB545_551.out _; (with_reducible repeat (first | refine blk_drewN ?_ _ | refine blk_drew ?_ | refine blk_alloc ?_ _)); refine blk_far ?_ NB545_551.out _; (with_reducible repeat (first | refine blk_drewN ?_ _ | refine blk_drew ?_ | refine blk_alloc ?_ _)); refine blk_far ?_ NB545_551.out _; (with_reducible repeat (first | refine blk_drewN ?_ _ | refine blk_drew ?_ | refine blk_alloc ?_ _)); exact BK545.out) Tryz.underlying36 rfl (by kernel_rfl)) rfl ?_
        exact ⟨by first | rfl | (simp [errW_none, errW_some] <;> rfl) | (simp only [← hji10]; first | rfl | (simp [errW_none, errW_some] <;> rfl)) | (simp [*, errW_none, errW_some] <;> rfl), bw⟩
      ·rw [if_neg c14] at H
       exact absurd H (by simp)
     ·rw [if_neg c12] at H
      exact absurd H (by simp)
    ·rw [if_neg c11] at H
     exact absurd H (by simp)
   ·rw [if_neg c8] at H
    exact absurd H (by simp)
  ·rw [if_neg c7] at H
   exact absurd H (by simp)

/-! ### spec_l1Read: function 79 -/
mutual
def spec_l1Read.j0 : Nat → ByteArray → Bool → Option (Int)
  | 0, _, _ => none
  | k + 1, x0, x18 => if x18 = true then (some (-1)) else (spec_l1Read.l0 k x0 0 0)
def spec_l1Read.l0 : Nat → ByteArray → Int → Int → Option (Int)
  | 0, _, _, _ => none
  | k + 1, x0, x3, x4 => if x4 < (x0.size : Int) then (if 0 ≤ x4 then (if (bt x0 x4) < 48 then (some (-1)) else (if (bt x0 x4) > 57 then (some (-1)) else (spec_l1Read.l0 k x0 (wrap64 ((wrap64 (10 * x3)) + (((bt x0 x4) - 48) % 256))) (wrap64 (x4 + 1))))) else (none)) else (some x3)
end
def spec_l1Read.f (k : Nat) (a0 : ByteArray) : Option (Int) := (spec_l1In.f (a0.size : Int) 1 6).bind fun t556 => (if t556 = true then (if 0 < (a0.size : Int) then (if (bt a0 0) = 48 then (spec_l1Read.j0 k a0 (decide ((a0.size : Int) > 1))) else (spec_l1Read.j0 k a0 false)) else (none)) else (spec_l1Read.j0 k a0 true))
theorem spec_l1Read.mono_l : ∀ k, (∀ y0 y1, LeO (spec_l1Read.j0 k y0 y1) (spec_l1Read.j0 (k + 1) y0 y1)) ∧ (∀ y0 y1 y2, LeO (spec_l1Read.l0 k y0 y1 y2) (spec_l1Read.l0 (k + 1) y0 y1 y2))
  | 0 => ⟨fun _ _ r h => by simp [spec_l1Read.j0] at h, fun _ _ _ r h => by simp [spec_l1Read.l0] at h⟩
  | k + 1 => by
    obtain ⟨ih0, ih1⟩ := spec_l1Read.mono_l k
    refine ⟨?q0, ?q1⟩
    case' q0 => (intros; unfold spec_l1Read.j0)
    case' q1 => (intros; unfold spec_l1Read.l0)
    all_goals repeat' first
     | (with_reducible exact ih0 _ _)
     | (with_reducible exact ih1 _ _ _)
     | (with_reducible exact LeO.refl _)
     | (with_reducible exact LeO.none _)
     | (with_reducible refine LeO.ite ?_ ?_)
     | (with_reducible refine LeO.bind ?_ (fun _ => ?_))
     | exact ih0 _ _
     | exact ih1 _ _ _
     | exact LeO.none _
     | refine LeO.ite ?_ ?_
     | refine LeO.bind ?_ (fun _ => ?_)
theorem spec_l1Read.mono : ∀ a0 k, LeO (spec_l1Read.f k a0) (spec_l1Read.f (k + 1) a0) := by
  intro a0 k
  obtain ⟨ih0, ih1⟩ := spec_l1Read.mono_l k
  unfold spec_l1Read.f
  repeat' first
      | (with_reducible exact ih0 _ _)
      | (with_reducible exact ih1 _ _ _)
      | (with_reducible exact LeO.refl _)
      | (with_reducible exact LeO.none _)
      | (with_reducible refine LeO.ite ?_ ?_)
      | (with_reducible refine LeO.bind ?_ (fun _ => ?_))
      | exact ih0 _ _
      | exact ih1 _ _ _
      | exact LeO.none _
      | refine LeO.ite ?_ ?_
      | refine LeO.bind ?_ (fun _ => ?_)
set_option maxHeartbeats 8000000 in
set_option maxRecDepth 100000 in
theorem spec_l1Read.calls (k : Nat) (a0 : ByteArray) (r : Int) (w : World) (h : spec_l1Read.f k a0 = some r) :
  Calls Tryz.prog 79 #[.string a0] w fun e w' => e = .returned (.int .i64 r) ∧ Drawn0 w w' := by
 unfold spec_l1Read.f at h
 have H := h
 clear h
 have HC2 := Aside0.mk H
 clear H
 go_enter Tryz.func79, Tryz.ntmps79
 go_upto_region 1 with (fail)
 go_cut [18] (fun v18 wc => ∃ (kq : Nat) (x18_1 : Bool), v18 = .bool x18_1 ∧ Aside0 (spec_l1Read.j0 kq a0 x18_1 = some r) ∧ Aside0 (kq ≤ k) ∧ Drawn0 w wc)
 case first =>
  have H := HC2.out
  clear HC2
  replace H := Option.bind_eq_some_iff.mp H
  obtain ⟨t556, A30, H⟩ := H
  (try dsimp only at H)
  have A3 := Aside0.mk A30
  clear A30
  by_cases c4 : t556 = true
  ·subst c4
   rw [if_pos rfl] at H
   by_cases c5 : 0 < (a0.size : Int)
   ·rw [if_pos c5] at H
    have c5b0 : decide (0 < (a0.size : Int)) = true := decide_eq_true c5
    have c5b1 : decide (0 < a0.size) = true := decide_eq_true (by omega)
    clear c5
    (first | rw [c5b0] | rw [@decide_eq_true _ _ (of_decide_eq_true c5b1)] | rw [@decide_eq_false _ _ (of_decide_eq_false c5b1)] | (simp only [i64_w, i32_w]; rw [c5b0]) | skip)
    by_cases c7 : (bt a0 0) = 48
    ·rw [if_pos c7] at H
     have c7b0 : ((bt a0 0) == 48) = true := beq_iff_eq.mpr c7
     have c7b1 : ((bt a0 0) != 48) = false := bne_eq_false_iff_eq.mpr c7
     clear c7
     have H' := Aside0.mk H
     clear H
     go_wp2_with (first | ((with_reducible refine gate_callee (f := 60) rfl ?_); refine gl (some 7) Tryz.func60 #[.int .i64 (a0.size : Int), .int .i64 1, .int .i64 6] ?_; (with_reducible refine (spec_l1In.calls (a0.size : Int) 1 6 true _ A3.out).mono ?_); rintro e w' ⟨rfl, ⟨nd, rfl⟩⟩; refine ⟨_, rfl, ?_⟩; have p6 : 0 ≤ (0 : Int) := (by omega); have q6 : 0 < a0.size := (by have : (0 : Int) < (a0.size : Int) := of_decide_eq_true asm; omega); have hx6 : ∀ h : 0 < a0.size, ((a0[0]'h).toNat : Int) = bt a0 0 := bt_at a0 0; clear p6; have qi6 : (0 < (a0.size : Int)) = True := eq_true (of_decide_eq_true asm); replace q6 := eq_true q6))
     go_meet
     case rel => exact ⟨_, (decide ((a0.size : Int) > 1)), (rs), H', ⟨by first | omega | exact Nat.le_refl _⟩, by repeat (first | exact Drawn0.refl _ | apply Drawn0.step)⟩
    ·rw [if_neg c7] at H
     have c7b0 : ((bt a0 0) == 48) = false := beq_eq_false_iff_ne.mpr c7
     have c7b1 : ((bt a0 0) != 48) = true := bne_iff_ne.mpr c7
     have H' := Aside0.mk H
     clear H
     go_wp2_with (first | ((with_reducible refine gate_callee (f := 60) rfl ?_); refine gl (some 7) Tryz.func60 #[.int .i64 (a0.size : Int), .int .i64 1, .int .i64 6] ?_; (with_reducible refine (spec_l1In.calls (a0.size : Int) 1 6 true _ A3.out).mono ?_); rintro e w' ⟨rfl, ⟨nd, rfl⟩⟩; refine ⟨_, rfl, ?_⟩; have p6 : 0 ≤ (0 : Int) := (by omega); have q6 : 0 < a0.size := (by have : (0 : Int) < (a0.size : Int) := of_decide_eq_true asm; omega); have hx6 : ∀ h : 0 < a0.size, ((a0[0]'h).toNat : Int) = bt a0 0 := bt_at a0 0; clear p6; have qi6 : (0 < (a0.size : Int)) = True := eq_true (of_decide_eq_true asm); replace q6 := eq_true q6))
     go_meet
     case rel => exact ⟨_, (false), (rs), H', ⟨by first | omega | exact Nat.le_refl _⟩, by repeat (first | exact Drawn0.refl _ | apply Drawn0.step)⟩
   ·rw [if_neg c5] at H
    exact absurd H (by simp)
  ·replace c4 := Bool.eq_false_iff.mpr c4
   subst c4
   rw [if_neg (show ¬ (false = true) by decide)] at H
   have H' := Aside0.mk H
   clear H
   go_wp2_with (first | ((with_reducible refine gate_callee (f := 60) rfl ?_); refine gl (some 7) Tryz.func60 #[.int .i64 (a0.size : Int), .int .i64 1, .int .i64 6] ?_; (with_reducible refine (spec_l1In.calls (a0.size : Int) 1 6 false _ A3.out).mono ?_); rintro e w' ⟨rfl, ⟨nd, rfl⟩⟩; refine ⟨_, rfl, ?_⟩))
   go_meet
   case rel => exact ⟨_, (true), (rs), H', ⟨by first | omega | exact Nat.le_refl _⟩, by repeat (first | exact Drawn0.refl _ | apply Drawn0.step)⟩
 case rest =>
  clear HC2
  try clear p2
  try clear c4
  try clear c5
  try clear c5b0
  try clear c5b1
  try clear c6
  try clear p6
  try clear q6
  try clear hx6
  try clear qi6
  try clear c7
  try clear c7b0
  try clear c7b1
  try clear p6
  try clear q6
  obtain ⟨kq, x18_1, rfl, HA, HJ1, ⟨mc1, rfl⟩⟩ := hcut
  cases kq with
  | zero => exact absurd HA.out (by simp [spec_l1Read.j0])
  | succ kj1 =>
   have H := HA.out
   clear HA
   simp only [spec_l1Read.j0] at H
   by_cases c8 : x18_1 = true
   ·subst c8
    rw [if_pos rfl] at H
    obtain rfl := Option.some.inj H
    go_wp2
    go_ret
    exact ⟨rs, by repeat (first | exact Drawn0.refl _ | apply Drawn0.step)⟩
   ·replace c8 := Bool.eq_false_iff.mpr c8
    subst c8
    rw [if_neg (show ¬ (false = true) by decide)] at H
    have H' := Aside0.mk H
    clear H
    go_wp2
    go_loopg [3, 4] kj1 (fun kq v3 v4 w' => ∃ (x3_2 : Int) (x4_2 : Int), v3 = .int .i64 x3_2 ∧ v4 = .int .i64 x4_2 ∧ Aside0 (spec_l1Read.l0 kq a0 x3_2 x4_2 = some r) ∧ Aside0 (kq ≤ kj1) ∧ Drawn0 w w')
    case atStart => exact ⟨(0), (0), (rs), (rs), H', ⟨Nat.le_refl _⟩, by repeat (first | exact Drawn0.refl _ | apply Drawn0.step)⟩
    case round =>
     clear H'
     try clear c1
     try clear p2
     try clear c4
     try clear c5
     try clear c5b0
     try clear c5b1
     try clear c6
     try clear p6
     try clear q6
     try clear hx6
     try clear qi6
     try clear c7
     try clear c7b0
     try clear c7b1
     try clear c8
     try clear p2
     try clear p6
     try clear q6
     obtain ⟨x3_2, x4_2, rfl, rfl, HA, HK2, ⟨m2, rfl⟩⟩ := hrel
     cases gk with
     | zero => exact absurd HA.out (by simp [spec_l1Read.l0])
     | succ k2 =>
      have H := HA.out
      clear HA
      simp only [spec_l1Read.l0] at H
      by_cases c9 : x4_2 < (a0.size : Int)
      ·rw [if_pos c9] at H
       have c9b0 : decide (x4_2 < (a0.size : Int)) = true := decide_eq_true c9
       clear c9
       by_cases c10 : 0 ≤ x4_2
       ·rw [if_pos c10] at H
        have c10b0 : decide (0 ≤ x4_2) = true := decide_eq_true c10
        clear c10
        by_cases c12 : (bt a0 x4_2) < 48
        ·rw [if_pos c12] at H
         have c12b0 : decide ((bt a0 x4_2) < 48) = true := decide_eq_true c12
         clear c12
         obtain rfl := Option.some.inj H
         have p11 : 0 ≤ (x4_2 : Int) := of_decide_eq_true asm
         have q11 : x4_2 < (a0.size : Int) := of_decide_eq_true asm
         have hx11 := bt_at a0 x4_2
         replace p11 := eq_true p11
         replace q11 := eq_true q11
         go_wp2
         go_ret
         exact ⟨rs, by repeat (first | exact Drawn0.refl _ | apply Drawn0.step)⟩
        ·rw [if_neg c12] at H
         have c12b0 : decide ((bt a0 x4_2) < 48) = false := decide_eq_false c12
         clear c12
         by_cases c14 : (bt a0 x4_2) > 57
         ·rw [if_pos c14] at H
          have c14b0 : decide (57 < (bt a0 x4_2)) = true := decide_eq_true c14
          clear c14
          obtain rfl := Option.some.inj H
          have p11 : 0 ≤ (x4_2 : Int) := of_decide_eq_true asm
          have q11 : x4_2 < (a0.size : Int) := of_decide_eq_true asm
          have hx11 := bt_at a0 x4_2
          replace p11 := eq_true p11
          replace q11 := eq_true q11
          have p13 : 0 ≤ (x4_2 : Int) := of_decide_eq_true asm
          have q13 : x4_2 < (a0.size : Int) := of_decide_eq_true asm
          have hx13 := bt_at a0 x4_2
          replace p13 := eq_true p13
          replace q13 := eq_true q13
          go_wp2
          go_ret
          exact ⟨rs, by repeat (first | exact Drawn0.refl _ | apply Drawn0.step)⟩
         ·rw [if_neg c14] at H
          have c14b0 : decide (57 < (bt a0 x4_2)) = false := decide_eq_false c14
          clear c14
          have H' := Aside0.mk H
          clear H
          have p11 : 0 ≤ (x4_2 : Int) := of_decide_eq_true asm
          have q11 : x4_2 < (a0.size : Int) := of_decide_eq_true asm
          have hx11 := bt_at a0 x4_2
          replace p11 := eq_true p11
          replace q11 := eq_true q11
          have p13 : 0 ≤ (x4_2 : Int) := of_decide_eq_true asm
          have q13 : x4_2 < (a0.size : Int) := of_decide_eq_true asm
          have hx13 := bt_at a0 x4_2
          replace p13 := eq_true p13
          replace q13 := eq_true q13
          have p15 : 0 ≤ (x4_2 : Int) := of_decide_eq_true asm
          have q15 : x4_2 < (a0.size : Int) := of_decide_eq_true asm
          have hx15 := bt_at a0 x4_2
          replace p15 := eq_true p15
          replace q15 := eq_true q15
          go_wp2
          go_roundg k2
          case measure => have := HJ1.out; have := HK2.out; omega
          case rel => exact ⟨(wrap64 ((wrap64 (10 * x3_2)) + (((bt a0 x4_2) - 48) % 256))), (wrap64 (x4_2 + 1)), (rs), (rs), H', ⟨by have := HJ1.out; have := HK2.out; omega⟩, by repeat (first | exact Drawn0.refl _ | apply Drawn0.step)⟩
       ·rw [if_neg c10] at H
        exact absurd H (by simp)
      ·rw [if_neg c9] at H
       have c9b0 : decide (x4_2 < (a0.size : Int)) = false := decide_eq_false c9
       clear c9
       obtain rfl := Option.some.inj H
       go_wp2
       go_ret
       exact ⟨rs, by repeat (first | exact Drawn0.refl _ | apply Drawn0.step)⟩

end Go.Proofs.YtmhbcfdodcnjmaaGreatDoor.PFnSignalsReach
