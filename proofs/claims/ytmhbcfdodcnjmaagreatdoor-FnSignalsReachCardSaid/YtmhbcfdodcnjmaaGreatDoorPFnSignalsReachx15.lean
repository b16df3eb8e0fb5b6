-- Laid by xprint, a program of this session that runs over the kit's print.
import Derived.Test.YtmhbcfdodcnjmaaGreatDoorPFnSignalsReachx0
import Derived.Test.YtmhbcfdodcnjmaaGreatDoorPFnSignalsReachx4
import Derived.Test.YtmhbcfdodcnjmaaGreatDoorPFnSignalsReachx13
import Derived.Test.YtmhbcfdodcnjmaaGreatDoorPFnSignalsReachx14
namespace Go.Proofs.YtmhbcfdodcnjmaaGreatDoor.PFnSignalsReach
open Go.RowKit Go.Proofs.YtmhbcfdodcnjmaaGreatDoorW.PrintWords Go.Proofs.YtmhbcfdodcnjmaaGreatDoorW.PrintLast Go.Proofs.YtmhbcfdodcnjmaaGreatDoorW.PrintMore Go.Proofs.YtmhbcfdodcnjmaaGreatDoor.Sq
attribute [local go_sem] max2_int min2_int max_two min_two max_three min_three max_four min_four   -- for this text's walks alone
set_option linter.unusedVariables false
set_option linter.unusedSimpArgs false

/-! ### spec_ParseSignal: function 36 -/
mutual
def spec_ParseSignal.l0 : Nat → ByteArray → Int → Option (Int × Bool × Int × Bool)
  | 0, _, _ => none
  | k + 1, x0, x4 => if x4 < (x0.size : Int) then (if 0 ≤ x4 then (if (bt x0 x4) = 60 then (spec_ParseSignal.j1 k x0 x4 false) else (spec_ParseSignal.j1 k x0 x4 ((bt x0 x4) != 62))) else (none)) else (some (0, false, 0, false))
def spec_ParseSignal.j1 : Nat → ByteArray → Int → Bool → Option (Int × Bool × Int × Bool)
  | 0, _, _, _ => none
  | k + 1, x0, x4, x25 => if x25 = true then (spec_ParseSignal.l0 k x0 (wrap64 (x4 + 1))) else (if 0 ≤ x4 then (if x4 ≤ (x0.size : Int) then ((spec_l1Read.f k (x0.extract 0 (x4 : Int).toNat)).bind fun t558 => (if x4 < (x0.size : Int) then (if 0 ≤ (wrap64 (x4 + 1)) then (if (wrap64 (x4 + 1)) ≤ (x0.size : Int) then ((spec_l1Read.f k (x0.extract ((wrap64 (x4 + 1)) : Int).toNat x0.size)).bind fun t559 => ((spec_siSignal.f 100 t558 ((bt x0 x4) == 60) t559).bind fun t561 => (if t561 = true then ((spec_siText.f k t558 ((bt x0 x4) == 60) t559).bind fun t562 => (if t562.toList = x0.toList then (some (t558, ((bt x0 x4) == 60), t559, true)) else (spec_ParseSignal.l0 k x0 (wrap64 (x4 + 1))))) else (spec_ParseSignal.l0 k x0 (wrap64 (x4 + 1)))))) else (none)) else (none)) else (none))) else (none)) else (none))
end
def spec_ParseSignal.f (k : Nat) (a0 : ByteArray) : Option (Int × Bool × Int × Bool) := if (a0.size : Int) > 6 then (some (0, false, 0, false)) else (spec_ParseSignal.l0 k a0 0)
theorem spec_ParseSignal.mono_l : ∀ k, (∀ y0 y1, LeO (spec_ParseSignal.l0 k y0 y1) (spec_ParseSignal.l0 (k + 1) y0 y1)) ∧ (∀ y0 y1 y2, LeO (spec_ParseSignal.j1 k y0 y1 y2) (spec_ParseSignal.j1 (k + 1) y0 y1 y2))
  | 0 => ⟨fun _ _ r h => by simp [spec_ParseSignal.l0] at h, fun _ _ _ r h => by simp [spec_ParseSignal.j1] at h⟩
  | k + 1 => by
    obtain ⟨ih0, ih1⟩ := spec_ParseSignal.mono_l k
    refine ⟨?q0, ?q1⟩
    case' q0 => (intros; unfold spec_ParseSignal.l0)
    case' q1 => (intros; unfold spec_ParseSignal.j1)
    all_goals repeat' first
     | (with_reducible exact ih0 _ _)
     | (with_reducible exact ih1 _ _ _)
     | (with_reducible exact spec_l1Read.mono _ _)
     | (with_reducible exact spec_siText.mono _ _ _ _)
     | (with_reducible exact LeO.refl _)
     | (with_reducible exact LeO.none _)
     | (with_reducible refine LeO.ite ?_ ?_)
     | (with_reducible refine LeO.bind ?_ (fun _ => ?_))
     | exact ih0 _ _
     | exact ih1 _ _ _
     | exact spec_l1Read.mono _ _
     | exact spec_siText.mono _ _ _ _
     | exact LeO.none _
     | refine LeO.ite ?_ ?_
     | refine LeO.bind ?_ (fun _ => ?_)
theorem spec_ParseSignal.mono : ∀ a0 k, LeO (spec_ParseSignal.f k a0) (spec_ParseSignal.f (k + 1) a0) := by
  intro a0 k
  obtain ⟨ih0, ih1⟩ := spec_ParseSignal.mono_l k
  unfold spec_ParseSignal.f
  repeat' first
      | (with_reducible exact ih0 _ _)
      | (with_reducible exact ih1 _ _ _)
      | (with_reducible exact spec_l1Read.mono _ _)
      | (with_reducible exact spec_siText.mono _ _ _ _)
      | (with_reducible exact LeO.refl _)
      | (with_reducible exact LeO.none _)
      | (with_reducible refine LeO.ite ?_ ?_)
      | (with_reducible refine LeO.bind ?_ (fun _ => ?_))
      | exact ih0 _ _
      | exact ih1 _ _ _
      | exact spec_l1Read.mono _ _
      | exact spec_siText.mono _ _ _ _
      | exact LeO.none _
      | refine LeO.ite ?_ ?_
      | refine LeO.bind ?_ (fun _ => ?_)
def spec_ParseSignal.T7 : Bool × List (List Nat × List Nat) := (true, [([], []), ([], []), ([0, 1], [0, 1]), ([2], [2]), ([], []), ([], []), ([4, 5], [4, 5]), ([6], [6]), ([], []), ([], []), ([9], [9]), ([8, 10], [8, 10]), ([11, 3], [11]), ([3, 7, 12], [3, 7, 12]), ([], []), ([14, 13, 12, 0, 1, 2, 3, 4, 5, 6, 7, 8, 9, 10, 11, 12, 13, 14], [13, 14])])
def spec_ParseSignal.B7 : List Nat := [0, 0, 3, 7, 0, 0, 48, 112, 0, 0, 512, 1792, 3855, 8191, 0, 32767]
theorem spec_ParseSignal.tab7 : rtab .any (opsOf Tryz.f36 7) = spec_ParseSignal.T7 := by kernel_rfl
theorem spec_ParseSignal.bits7 : waitsOk spec_ParseSignal.T7.2 spec_ParseSignal.B7 = true := by kernel_rfl
set_option maxHeartbeats 8000000 in
set_option maxRecDepth 100000 in
theorem spec_ParseSignal.calls (k : Nat) (a0 : ByteArray) (r1 : Int) (r2 : Bool) (r3 : Int) (r4 : Bool) (w : World) (h : spec_ParseSignal.f k a0 = some (r1, r2, r3, r4)) :
  Calls Tryz.prog 36 #[.string a0] w fun e w' => e = .returned (.tuple #[.agg #[.int .i64 r1, .bool r2, .int .i64 r3], .bool r4]) ∧ Below w.heap.size w w' := by
 have hu36 := Tryz.underlying36
 have HB := Aside0.mk (Below.refl w.heap.size w)
 unfold spec_ParseSignal.f at h
 have H := h
 clear h
 by_cases c2 : (a0.size : Int) > 6
 ·rw [if_pos c2] at H
  have c2b0 : decide (6 < (a0.size : Int)) = true := decide_eq_true c2
  have c2b1 : decide (6 < a0.size) = true := decide_eq_true (by omega)
  clear c2
  simp only [Option.some.injEq, Prod.mk.injEq] at H
  obtain ⟨rfl, rfl, rfl, rfl⟩ := H
  go_enter Tryz.func36, Tryz.ntmps36
  go_wp2_with (first | ((with_reducible refine gate_dst (N := 2) rfl ?_); refine bx 2 36 #[.int .i64 0, .bool false, .int .i64 0] ?_; intro gb557 hg w3 hbox hb; have BK557 := hbox; have GW557 := gs hg; have GE557 := gs hg; replace HB := bs hb; clear hb hbox hg; have hcz4_0 := bc BK557 0 (.int .i64 0); have hcz4_1 := bc BK557 1 (.bool false); have hcz4_2 := bc BK557 2 (.int .i64 0); have hfz4_0 := blk_frozen BK557.out 0; have hfz4_1 := blk_frozen BK557.out 1; have hfz4_2 := blk_frozen BK557.out 2))
  refine bodyPost_ret (results_ct rfl _ _ gb557 36 #[.int .i64 0, .bool false, .int .i64 0] (0, 0) _ rfl (by (with_reducible repeat (first | refine blk_drewN ?_ _ | refine blk_drew ?_ | refine blk_alloc ?_ _)); refine blk_put (cs := #[.int .i64 0, .bool false, .int .i64 0]) ?_ 2 _ rfl; (with_reducible repeat (first | refine blk_drewN ?_ _ | refine blk_drew ?_ | refine blk_alloc ?_ _)); refine blk_put (cs := #[.int .i64 0, .bool false, .int .i64 0]) ?_ 1 _ rfl; (with_reducible repeat (first | refine blk_drewN ?_ _ | refine blk_drew ?_ | refine blk_alloc ?_ _)); refine blk_put (cs := #[.int .i64 0, .bool false, .int .i64 0]) ?_ 0 _ rfl; (with_reducible repeat (first | refine blk_drewN ?_ _ | refine blk_drew ?_ | refine blk_alloc ?_ _)); exact BK557.out) Tryz.underlying36 rfl (by kernel_rfl)) rfl ?_
  exact ⟨rs, bw⟩
 ·rw [if_neg c2] at H
  have c2b0 : decide (6 < (a0.size : Int)) = false := decide_eq_false c2
  have c2b1 : decide (6 < a0.size) = false := decide_eq_false (by omega)
  clear c2
  have H' := Aside0.mk H
  clear H
  go_enter Tryz.func36, Tryz.ntmps36
  go_wp2_with (first | ((with_reducible refine gate_dst (N := 2) rfl ?_); refine bx 2 36 #[.int .i64 0, .bool false, .int .i64 0] ?_; intro gb557 hg w5 hbox hb; have BK557 := hbox; have GW557 := gs hg; have GE557 := gs hg; replace HB := bs hb; clear hb hbox hg))
  go_loopg [4] k (fun kq v4 w' => ∃ (x4_1 : Int) (x558000_1 : Int) (x558001_1 : Bool) (x558002_1 : Int), v4 = .int .i64 x4_1 ∧ Aside0 (spec_ParseSignal.l0 kq a0 x4_1 = some (r1, r2, r3, r4)) ∧ Aside0 (kq ≤ k) ∧ Aside0 (w'.heap[gb557]? = some (.cells #[.int .i64 x558000_1, .bool x558001_1, .int .i64 x558002_1] 36 (0, 0))) ∧ Aside0 (Below w.heap.size w w'))
  case atStart => exact ⟨(0), (0), (false), (0), (rs), H', ⟨Nat.le_refl _⟩, ⟨pk BK557⟩, ⟨bw⟩⟩
  case round =>
   clear H'
   try clear c2
   try clear c2b0
   try clear c2b1
   try clear p2
   try clear c3
   try clear hcz4_0
   try clear hcz4_1
   try clear hcz4_2
   try clear hfz4_0
   try clear hfz4_1
   try clear hfz4_2
   obtain ⟨x4_1, x558000_1, x558001_1, x558002_1, rfl, HA, HK1, BK557, HB⟩ := hrel
   cases gk with
   | zero => exact absurd HA.out (by simp [spec_ParseSignal.l0])
   | succ k1 =>
    have H := HA.out
    clear HA
    simp only [spec_ParseSignal.l0] at H
    by_cases c6 : x4_1 < (a0.size : Int)
    ·rw [if_pos c6] at H
     have c6b0 : decide (x4_1 < (a0.size : Int)) = true := decide_eq_true c6
     clear c6
     have HC7 := Aside0.mk H
     clear H
     go_upto_region 6 with (fail)
     go_cut [25] (fun v25 wc => ∃ (kq : Nat) (x25_6 : Bool), v25 = .bool x25_6 ∧ Aside0 (spec_ParseSignal.j1 kq a0 x4_1 x25_6 = some (r1, r2, r3, r4)) ∧ Aside0 (kq ≤ k1) ∧ Aside0 (wc.heap[gb557]? = some (.cells #[.int .i64 x558000_1, .bool x558001_1, .int .i64 x558002_1] 36 (0, 0))) ∧ Aside0 (Below w.heap.size w wc))
     case first =>
      have H := HC7.out
      clear HC7
      by_cases c8 : 0 ≤ x4_1
      ·rw [if_pos c8] at H
       have c8b0 : decide (0 ≤ x4_1) = true := decide_eq_true c8
       clear c8
       (first | rw [c8b0] | rw [@decide_eq_true _ _ (of_decide_eq_true c8b1)] | rw [@decide_eq_false _ _ (of_decide_eq_false c8b1)] | (simp only [i64_w, i32_w]; rw [c8b0]) | skip)
       by_cases c10 : (bt a0 x4_1) = 60
       ·rw [if_pos c10] at H
        have c10b0 : ((bt a0 x4_1) == 60) = true := beq_iff_eq.mpr c10
        have c10b1 : ((bt a0 x4_1) != 60) = false := bne_eq_false_iff_eq.mpr c10
        clear c10
        have H' := Aside0.mk H
        clear H
        have p9 : 0 ≤ (x4_1 : Int) := of_decide_eq_true asm
        have q9 : x4_1 < (a0.size : Int) := of_decide_eq_true asm
        have hx9 := bt_at a0 x4_1
        replace p9 := eq_true p9
        replace q9 := eq_true q9
        go_wp2
        go_meet
        case rel => exact ⟨_, (false), (rs), H', ⟨by have := HK1.out; first | omega | exact Nat.le_refl _⟩, ⟨pk BK557⟩, ⟨bw⟩⟩
       ·rw [if_neg c10] at H
        have c10b0 : ((bt a0 x4_1) == 60) = false := beq_eq_false_iff_ne.mpr c10
        have c10b1 : ((bt a0 x4_1) != 60) = true := bne_iff_ne.mpr c10
        have H' := Aside0.mk H
        clear H
        have p9 : 0 ≤ (x4_1 : Int) := of_decide_eq_true asm
        have q9 : x4_1 < (a0.size : Int) := of_decide_eq_true asm
        have hx9 := bt_at a0 x4_1
        replace p9 := eq_true p9
        replace q9 := eq_true q9
        have p11 : 0 ≤ (x4_1 : Int) := of_decide_eq_true asm
        have q11 : x4_1 < (a0.size : Int) := of_decide_eq_true asm
        have hx11 := bt_at a0 x4_1
        replace p11 := eq_true p11
        replace q11 := eq_true q11
        go_wp2
        go_meet
        case rel => exact ⟨_, (((bt a0 x4_1) != 62)), (rs), H', ⟨by have := HK1.out; first | omega | exact Nat.le_refl _⟩, ⟨pk BK557⟩, ⟨bw⟩⟩
      ·rw [if_neg c8] at H
       exact absurd H (by simp)
     case rest =>
      clear HC7
      try clear c1
      try clear p1
      try clear q1
      try clear hx1
      try clear c2
      try clear c2b0
      try clear c2b1
      try clear p2
      try clear c3
      try clear c6
      try clear c6b0
      try clear c8
      try clear c8b0
      try clear p9
      try clear q9
      try clear hx9
      try clear c10
      try clear c10b0
      try clear c10b1
      try clear p11
      try clear q11
      try clear hx11
      try clear hcz4_0
      try clear hcz4_1
      try clear hcz4_2
      try clear hfz4_0
      try clear hfz4_1
      try clear hfz4_2
      try clear p11
      try clear p2
      try clear p9
      try clear q11
      try clear q9
      obtain ⟨kq, x25_6, rfl, HA, HJ6, BK557, HB⟩ := hcut
      cases kq with
      | zero => exact absurd HA.out (by simp [spec_ParseSignal.j1])
      | succ kj6 =>
       have H := HA.out
       clear HA
       simp only [spec_ParseSignal.j1] at H
       by_cases c12 : x25_6 = true
       ·subst c12
        rw [if_pos rfl] at H
        have H' := Aside0.mk H
        clear H
        go_wp2
        go_roundg kj6
        case measure => have := HK1.out; have := HJ6.out; omega
        case rel => exact ⟨(wrap64 (x4_1 + 1)), (x558000_1), (x558001_1), (x558002_1), (rs), H', ⟨by have := HK1.out; have := HJ6.out; omega⟩, ⟨pk BK557⟩, ⟨bw⟩⟩
       ·replace c12 := Bool.eq_false_iff.mpr c12
        subst c12
        rw [if_neg (show ¬ (false = true) by decide)] at H
        by_cases c13 : 0 ≤ x4_1
        ·rw [if_pos c13] at H
         have c13b0 := eq_true c13
         have c13b1 : decide (0 ≤ x4_1) = true := decide_eq_true c13
         clear c13
         by_cases c14 : x4_1 ≤ (a0.size : Int)
         ·rw [if_pos c14] at H
          have c14b0 := eq_true c14
          have c14b1 : decide (x4_1 ≤ (a0.size : Int)) = true := decide_eq_true c14
          clear c14
          replace H := Option.bind_eq_some_iff.mp H
          obtain ⟨t558, A150, H⟩ := H
          (try dsimp only at H)
          have A15 := Aside0.mk A150
          clear A150
          by_cases c16 : x4_1 < (a0.size : Int)
          ·rw [if_pos c16] at H
           have c16b0 : decide (x4_1 < (a0.size : Int)) = true := decide_eq_true c16
           clear c16
           obtain ⟨ji18, hji18⟩ : ∃ j_ : Int, (wrap64 (x4_1 + 1)) = j_ := ⟨_, rfl⟩
           replace H : (if 0 ≤ (ji18) then (if (ji18) ≤ (a0.size : Int) then ((spec_l1Read.f kj6 (a0.extract ((ji18) : Int).toNat a0.size)).bind fun t559 => ((spec_siSignal.f 100 t558 ((bt a0 x4_1) == 60) t559).bind fun t561 => (if t561 = true then ((spec_siText.f kj6 t558 ((bt a0 x4_1) == 60) t559).bind fun t562 => (if t562.toList = a0.toList then (some (t558, ((bt a0 x4_1) == 60), t559, true)) else (spec_ParseSignal.l0 kj6 a0 ji18))) else (spec_ParseSignal.l0 kj6 a0 ji18)))) else (none)) else (none)) = some (r1, r2, r3, r4) := by first | (rw [hji18] at H; exact H) | (simp only [hji18] at H ⊢; exact H)
           (try rw [hji18] at A15)
           have hji18w : (IntKind.i64.wrap (x4_1 + 1)) = ji18 := (i64_w _).trans hji18
           by_cases c19 : 0 ≤ (ji18)
           ·rw [if_pos c19] at H
            have c19b0 := eq_true c19
            have c19b1 : decide (0 ≤ (ji18)) = true := decide_eq_true c19
            clear c19
            by_cases c20 : (ji18) ≤ (a0.size : Int)
            ·rw [if_pos c20] at H
             have c20b0 := eq_true c20
             have c20b1 : decide ((ji18) ≤ (a0.size : Int)) = true := decide_eq_true c20
             clear c20
             replace H := Option.bind_eq_some_iff.mp H
             obtain ⟨t559, A210, H⟩ := H
             (try dsimp only at H)
             have A21 := Aside0.mk A210
             clear A210
             replace H := Option.bind_eq_some_iff.mp H
             obtain ⟨t561, A220, H⟩ := H
             (try dsimp only at H)
             have A22 := Aside0.mk A220
             clear A220
             by_cases c23 : t561 = true
             ·subst c23
              rw [if_pos rfl] at H
              replace H := Option.bind_eq_some_iff.mp H
              obtain ⟨t562, A240, H⟩ := H
              (try dsimp only at H)
              have A24 := Aside0.mk A240
              clear A240
              by_cases c25 : t562.toList = a0.toList
              ·rw [if_pos c25] at H
               have c25b0 : (t562.toList == a0.toList) = true := beq_iff_eq.mpr c25
               have c25b1 : (t562.toList != a0.toList) = false := bne_eq_false_iff_eq.mpr c25
               clear c25
               simp only [Option.some.injEq, Prod.mk.injEq] at H
               obtain ⟨rfl, rfl, rfl, rfl⟩ := H
               try go_wp2
               replace BK557 := Aside0.mk (blk_drew BK557.out)
               replace HB := Aside0.mk (below_drew1 HB.out)
               have p17 : 0 ≤ (x4_1 : Int) := of_decide_eq_true asm
               have q17 : x4_1 < (a0.size : Int) := of_decide_eq_true asm
               have hx17 := bt_at a0 x4_1
               replace p17 := eq_true p17
               replace q17 := eq_true q17
               refine start_ (n := 16) (S := fun w' => True) (ds := []) (tb 16 0) (by kernel_rfl) rfl rfl trivial (fun hHeld => ?_); refine with_tabW spec_ParseSignal.tab7 spec_ParseSignal.bits7 (fun HT_ HW_ => ?_)
               generalize wc.drew = w26 at BK557 HB hHeld ⊢
               refine pu 0 (some 26) (tb 16 1) ?_
               refine pu 1 (some 27) (tb 16 3) ?_
               refine pu 2 (some 28) (tb 16 7) ?_
               refine pu 4 (some 30) (tb 16 23) ?_
               refine pu 5 (some 31) (tb 16 55) ?_
               refine pu 8 (some 34) (tb 16 311) ?_
               refine pu 9 (some 35) (tb 16 823) ?_
               refine pu 10 (some 36) (tb 16 1847) ?_
               refine pu 11 (some 37) (tb 16 3895) ?_
               refine take_ (i := 6) (N := some 32) (v := ?_) (a' := ?_) (tb 16 3959) rfl rfl (take_ofW HT_.out HW_.out (by kernel_rfl)) (fun _ _ _ h => h) (Or.inl ⟨by rfl, ?_⟩) hHeld ?_ ?_
               rotate_left
               ·intro w' _
                go_simp
                with_reducible rfl
               rotate_left
               ·simp only [Act.put, List.setIfInBounds_toArray, List.set_cons_zero, List.set_cons_succ, i64_w, i32_w]
                rfl
               refine pu 7 (some 33) (tb 16 4087) ?_
               refine join_ (σ := Nat) 1 (tb 16 32767) (fun s_ => [(29, .int .i64 t558), (38, .int .i64 t559), (5, .pointer (some ⟨s_, 0, none⟩)), (39, .agg #[.int .i64 t558, .bool ((bt a0 x4_1) == 60), .int .i64 t559])]) (fun s_ w' => (w'.heap[gb557]? = some (.cells #[.int .i64 x558000_1, .bool x558001_1, .int .i64 x558002_1] 36 (0, 0))) ∧ (w'.heap[s_]? = some (.cells #[.int .i64 0, .bool false, .int .i64 0] 36 (0, 0))) ∧ (w.heap.size ≤ s_) ∧ (w.heap.size ≤ s_) ∧ (gb557 ≠ s_) ∧ (s_ ≠ gb557) ∧ (Below w.heap.size w w')) ?_ ?_
               rotate_left
               ·intro hCont
                refine two_ (i := 3) (j := 14) (Ni := some 29) (Nj := some 5) (tb 16 4095) (tb 16 20471) rfl rfl rfl rfl (two_of HT_.out (by kernel_rfl)) (by decide) (by decide) (fun K hK => ?_) (fun K hK => ?_)
                ·skip
                 refine goes_ Tryz.func79 (by kernel_rfl) rfl #[.string (a0.extract 0 (x4_1 : Int).toNat)] (by rfl) rfl rfl (by (try simp only [List.map_toArray, List.map_cons, List.map_nil]); first | done | rfl | (simp only [List.length_drop, List.length_take]; rfl)) ?_
                 with_reducible refine (spec_l1Read.calls kj6 (a0.extract 0 (x4_1 : Int).toNat) t558 _ A15.out).mono ?_
                 rintro e w' ⟨rfl, ⟨nd, rfl⟩⟩
                 refine ⟨_, rfl, ?_⟩
                 refine hK.out _ _ trivial (fun hHeld => ?_)
                 clear hK K
                 refine nm (some 29) ?_
                 refine two_ (i := 12) (j := 14) (Ni := some 38) (Nj := some 5) (tb 16 8191) (tb 16 20479) rfl rfl rfl rfl (two_of HT_.out (by kernel_rfl)) (by decide) (by decide) (fun K hK => ?_) (fun K hK => ?_)
                 ·skip
                  refine goes_ Tryz.func79 (by kernel_rfl) rfl #[.string (a0.extract ((ji18) : Int).toNat a0.size)] (by rfl) rfl rfl (by (try simp only [List.map_toArray, List.map_cons, List.map_nil]); first | done | (simp only [hji18]; rfl) | rfl | (simp only [List.length_drop, List.length_take]; rfl)) ?_
                  with_reducible refine (spec_l1Read.calls kj6 (a0.extract ((ji18) : Int).toNat a0.size) t559 _ A21.out).mono ?_
                  rintro e w' ⟨rfl, ⟨nd, rfl⟩⟩
                  refine ⟨_, rfl, ?_⟩
                  refine hK.out _ _ trivial (fun hHeld => ?_)
                  clear hK K
                  refine nm (some 38) ?_
                  refine pu 13 (some 39) (tb 16 16383) ?_
                  refine one_ (i := 14) (N := some 5) (tb 16 32767) rfl rfl (one_of HT_.out (by kernel_rfl)) (by decide) (fun K hK => ?_)
                  refine box_step ?hg (N := 5) ?hd (cs := #[.int .i64 0, .bool false, .int .i64 0]) (t := 36) ?hr ?_; (case hd => rfl); (case hg => rfl); (case hr => first | (go_simp; done) | (go_simp; rfl))
                  intro gb560 hg w27 hbox hb
                  have BK560 := Aside0.mk (hbox)
                  have GW560 := gs hg
                  have GE560 := gs hg
                  replace HB := bs hb
                  have NB557_560 := nl BK557 hg
                  have NB560_557 := ng BK557 hg
                  replace BK557 := nk BK557 hb
                  clear hb hbox hg
                  refine hK.out _ _ trivial (fun hHeld => ?_)
                  clear hK K
                  refine nm (some 5) ?_
                  exact norm_ (by simp only [putAll, Act.put, List.setIfInBounds_toArray, List.set_cons_zero, List.set_cons_succ]) (hCont (gb560) _ ⟨(pk BK557), (pk BK560), GW560.out, GE560.out, NB557_560.out, NB560_557.out, bw⟩)
                 ·skip
                  refine box_step ?hg (N := 5) ?hd (cs := #[.int .i64 0, .bool false, .int .i64 0]) (t := 36) ?hr ?_; (case hd => rfl); (case hg => rfl); (case hr => first | (go_simp; done) | (go_simp; rfl))
                  intro gb560 hg w27 hbox hb
                  have BK560 := Aside0.mk (hbox)
                  have GW560 := gs hg
                  have GE560 := gs hg
                  replace HB := bs hb
                  have NB557_560 := nl BK557 hg
                  have NB560_557 := ng BK557 hg
                  replace BK557 := nk BK557 hb
                  clear hb hbox hg
                  refine hK.out _ _ trivial (fun hHeld => ?_)
                  clear hK K
                  refine nm (some 5) ?_
                  refine one_ (i := 12) (N := some 38) (tb 16 24575) rfl rfl (one_of HT_.out (by kernel_rfl)) (by decide) (fun K hK => ?_)
                  refine goes_ Tryz.func79 (by kernel_rfl) rfl #[.string (a0.extract ((ji18) : Int).toNat a0.size)] (by rfl) rfl rfl (by (try simp only [List.map_toArray, List.map_cons, List.map_nil]); first | done | (simp only [hji18]; rfl) | rfl | (simp only [List.length_drop, List.length_take]; rfl)) ?_
                  with_reducible refine (spec_l1Read.calls kj6 (a0.extract ((ji18) : Int).toNat a0.size) t559 _ A21.out).mono ?_
                  rintro e w' ⟨rfl, ⟨nd, rfl⟩⟩
                  refine ⟨_, rfl, ?_⟩
                  refine hK.out _ _ trivial (fun hHeld => ?_)
                  clear hK K
                  refine nm (some 38) ?_
                  refine pu 13 (some 39) (tb 16 32767) ?_
                  exact norm_ (by simp only [putAll, Act.put, List.setIfInBounds_toArray, List.set_cons_zero, List.set_cons_succ]) (hCont (gb560) _ ⟨(pk BK557), (pk BK560), GW560.out, GE560.out, NB557_560.out, NB560_557.out, bw⟩)
                ·skip
                 refine box_step ?hg (N := 5) ?hd (cs := #[.int .i64 0, .bool false, .int .i64 0]) (t := 36) ?hr ?_; (case hd => rfl); (case hg => rfl); (case hr => first | (go_simp; done) | (go_simp; rfl))
                 intro gb560 hg w27 hbox hb
                 have BK560 := Aside0.mk (hbox)
                 have GW560 := gs hg
                 have GE560 := gs hg
                 replace HB := bs hb
                 have NB557_560 := nl BK557 hg
                 have NB560_557 := ng BK557 hg
                 replace BK557 := nk BK557 hb
                 clear hb hbox hg
                 refine hK.out _ _ trivial (fun hHeld => ?_)
                 clear hK K
                 refine nm (some 5) ?_
                 refine one_ (i := 3) (N := some 29) (tb 16 20479) rfl rfl (one_of HT_.out (by kernel_rfl)) (by decide) (fun K hK => ?_)
                 refine goes_ Tryz.func79 (by kernel_rfl) rfl #[.string (a0.extract 0 (x4_1 : Int).toNat)] (by rfl) rfl rfl (by (try simp only [List.map_toArray, List.map_cons, List.map_nil]); first | done | rfl | (simp only [List.length_drop, List.length_take]; rfl)) ?_
                 with_reducible refine (spec_l1Read.calls kj6 (a0.extract 0 (x4_1 : Int).toNat) t558 _ A15.out).mono ?_
                 rintro e w' ⟨rfl, ⟨nd, rfl⟩⟩
                 refine ⟨_, rfl, ?_⟩
                 refine hK.out _ _ trivial (fun hHeld => ?_)
                 clear hK K
                 refine nm (some 29) ?_
                 refine one_ (i := 12) (N := some 38) (tb 16 24575) rfl rfl (one_of HT_.out (by kernel_rfl)) (by decide) (fun K hK => ?_)
                 refine goes_ Tryz.func79 (by kernel_rfl) rfl #[.string (a0.extract ((ji18) : Int).toNat a0.size)] (by rfl) rfl rfl (by (try simp only [List.map_toArray, List.map_cons, List.map_nil]); first | done | (simp only [hji18]; rfl) | rfl | (simp only [List.length_drop, List.length_take]; rfl)) ?_
                 with_reducible refine (spec_l1Read.calls kj6 (a0.extract ((ji18) : Int).toNat a0.size) t559 _ A21.out).mono ?_
                 rintro e w' ⟨rfl, ⟨nd, rfl⟩⟩
                 refine ⟨_, rfl, ?_⟩
                 refine hK.out _ _ trivial (fun hHeld => ?_)
                 clear hK K
                 refine nm (some 38) ?_
                 refine pu 13 (some 39) (tb 16 32767) ?_
                 exact norm_ (by simp only [putAll, Act.put, List.setIfInBounds_toArray, List.set_cons_zero, List.set_cons_succ]) (hCont (gb560) _ ⟨(pk BK557), (pk BK560), GW560.out, GE560.out, NB557_560.out, NB560_557.out, bw⟩)
               rintro gb560 w28 ⟨h0_, h1_, h2_, h3_, h4_, h5_, h6_⟩
               have n0_ : Aside0 (w28.heap[gb557]? = some (.cells #[.int .i64 x558000_1, .bool x558001_1, .int .i64 x558002_1] 36 (0, 0))) := ⟨h0_⟩
               have n1_ : Aside0 (w28.heap[gb560]? = some (.cells #[.int .i64 0, .bool false, .int .i64 0] 36 (0, 0))) := ⟨h1_⟩
               have n2_ : Aside0 (w.heap.size ≤ gb560) := ⟨h2_⟩
               have n3_ : Aside0 (w.heap.size ≤ gb560) := ⟨h3_⟩
               have n4_ : Aside0 (gb557 ≠ gb560) := ⟨h4_⟩
               have n5_ : Aside0 (gb560 ≠ gb557) := ⟨h5_⟩
               have n6_ : Aside0 (Below w.heap.size w w28) := ⟨h6_⟩
               clear BK557
               clear HB
               clear h0_ h1_ h2_ h3_ h4_ h5_ h6_
               have BK557 := n0_
               have BK560 := n1_
               have GW560 := n2_
               have GE560 := n3_
               have NB557_560 := n4_
               have NB560_557 := n5_
               have HB := n6_
               clear n0_ n1_ n2_ n3_ n4_ n5_ n6_
               have hHeld := trivial
               refine norm_ (a' := ?_) ?_ ?_
               rotate_left
               ·simp only [putAll, Act.put, List.setIfInBounds_toArray, List.set_cons_zero, List.set_cons_succ]
                rfl
               refine one_ (i := 15) (N := none) (tb 16 65535) rfl rfl (one_of HT_.out (by kernel_rfl)) (by decide) (fun K hK => ?_)
               have hs29 : w28.cell? ⟨gb560, 0, none⟩ = some (.int .i64 0) := ec BK560
               have hfs29 := blk_frozen BK560.out 0
               have hns29_0 := NB557_560.out
               have hms29_0 := NB560_557.out
               have hs30 : w28.cell? ⟨gb560, 1, none⟩ = some (.bool false) := ec BK560
               have hfs30 := blk_frozen BK560.out 1
               have hns30_0 := NB557_560.out
               have hms30_0 := NB560_557.out
               have hs31 : w28.cell? ⟨gb560, 2, none⟩ = some (.int .i64 0) := ec BK560
               have hfs31 := blk_frozen BK560.out 2
               have hns31_0 := NB557_560.out
               have hms31_0 := NB560_557.out
               refine skip_ (w1 := ?_) (by rfl) rfl ?_ ?_
               rotate_left
               ·go_simp
                rfl
               refine hK.out _ _ trivial (fun hHeld => ?_)
               clear hK K
               refine done_ (done_of HT_.out (by kernel_rfl)) ?_
               have hnb32 := NB560_557.out
               have hnc32 := NB557_560.out
               have hcz33_0 := bc BK560 0 (.int .i64 0)
               have hcz33_1 := bc BK560 1 (.bool false)
               have hcz33_2 := bc BK560 2 (.int .i64 0)
               have hfz33_0 := blk_frozen BK560.out 0
               have hfz33_1 := blk_frozen BK560.out 1
               have hfz33_2 := blk_frozen BK560.out 2
               try go_wp2_with (first | ((with_reducible refine gate_callee (f := 72) rfl ?_); refine gl (some 41) Tryz.func72 #[.int .i64 100, .agg #[.int .i64 t558, .bool ((bt a0 x4_1) == 60), .int .i64 t559]] ?_; (with_reducible refine (spec_siSignal.calls 100 t558 ((bt a0 x4_1) == 60) t559 true _ A22.out).mono ?_); rintro e w34 ⟨rfl, hb⟩; refine ⟨_, rfl, ?_⟩; replace BK557 := nf BK557 hb; replace BK560 := Aside0.mk (blk_below (g := gb560) (o := .cells #[.int .i64 t558, .bool ((bt a0 x4_1) == 60), .int .i64 t559] 36 (0, 0)) (by (with_reducible repeat (first | refine blk_drewN ?_ _ | refine blk_drew ?_ | refine blk_alloc ?_ _)); refine blk_put (cs := #[.int .i64 t558, .bool ((bt a0 x4_1) == 60), .int .i64 0]) ?_ 2 _ rfl; (with_reducible repeat (first | refine blk_drewN ?_ _ | refine blk_drew ?_ | refine blk_alloc ?_ _)); refine blk_put (cs := #[.int .i64 t558, .bool false, .int .i64 0]) ?_ 1 _ rfl; (with_reducible repeat (first | refine blk_drewN ?_ _ | refine blk_drew ?_ | refine blk_alloc ?_ _)); refine blk_put (cs := #[.int .i64 0, .bool false, .int .i64 0]) ?_ 0 _ rfl; (with_reducible repeat (first | refine blk_drewN ?_ _ | refine blk_drew ?_ | refine blk_alloc ?_ _)); exact BK560.out) hb); replace HB := bs hb; (try clear hb); have hcz35_0 := bc BK560 0 (.int .i64 t558); have hcz35_1 := bc BK560 1 (.bool ((bt a0 x4_1) == 60)); have hcz35_2 := bc BK560 2 (.int .i64 t559); have hfz35_0 := blk_frozen BK560.out 0; have hfz35_1 := blk_frozen BK560.out 1; have hfz35_2 := blk_frozen BK560.out 2) | (go_at_call 73; (with_reducible refine (spec_siText.calls kj6 t558 ((bt a0 x4_1) == 60) t559 t562 _ A24.out).mono ?_); rintro e w36 ⟨rfl, hb⟩; replace BK557 := nk BK557 hb; replace BK560 := nk BK560 hb; replace HB := bs hb; (try clear hb); have hcz37_0 := bc BK560 0 (.int .i64 t558); have hcz37_1 := bc BK560 1 (.bool ((bt a0 x4_1) == 60)); have hcz37_2 := bc BK560 2 (.int .i64 t559); have hfz37_0 := blk_frozen BK560.out 0; have hfz37_1 := blk_frozen BK560.out 1; have hfz37_2 := blk_frozen BK560.out 2; have hcz38_0 := bc BK557 0 (.int .i64 x558000_1); have hcz38_1 := bc BK557 1 (.bool x558001_1); have hcz38_2 := bc BK557 2 (.int .i64 x558002_1); have hfz38_0 := blk_frozen BK557.out 0; have hfz38_1 := blk_frozen BK557.out 1; have hfz38_2 := blk_frozen BK557.out 2))
               refine bodyPost_ret (results_ct rfl _ _ gb557 36 #[.int .i64 t558, .bool ((bt a0 x4_1) == 60), .int .i64 t559] (0, 0) _ rfl (by (with_reducible repeat (first | refine blk_drewN ?_ _ | refine blk_drew ?_ | refine blk_alloc ?_ _)); refine blk_put (cs := #[.int .i64 t558, .bool ((bt a0 x4_1) == 60), .int .i64 x558002_1]) ?_ 2 _ rfl; (with_reducible repeat (first | refine blk_drewN ?_ _ | refine blk_drew ?_ | refine blk_alloc ?_ _)); refine blk_put (cs := #[.int .i64 t558, .bool x558001_1, .int .i64 x558002_1]) ?_ 1 _ rfl; (with_reducible repeat (first | refine blk_drewN ?_ _ | refine blk_drew ?_ | refine blk_alloc ?_ _)); refine blk_put (cs := #[.int .i64 x558000_1, .bool x558001_1, .int .i64 x558002_1]) ?_ 0 _ rfl; (with_reducible repeat (first | refine blk_drewN ?_ _ | refine blk_drew ?_ | refine blk_alloc ?_ _)); exact BK557.out) Tryz.underlying36 rfl (by kernel_rfl)) rfl ?_
               exact ⟨by first | rfl | (simp [errW_none, errW_some] <;> rfl) | (simp only [← hji18]; first | rfl | (simp [errW_none, errW_some] <;> rfl)) | (simp [*, errW_none, errW_some] <;> rfl), bw⟩
              ·rw [if_neg c25] at H
               have c25b0 : (t562.toList == a0.toList) = false := beq_eq_false_iff_ne.mpr c25
               have c25b1 : (t562.toList != a0.toList) = true := bne_iff_ne.mpr c25
               have H' := Aside0.mk H
               clear H
               try go_wp2
               replace BK557 := Aside0.mk (blk_drew BK557.out)
               replace HB := Aside0.mk (below_drew1 HB.out)
               have p17 : 0 ≤ (x4_1 : Int) := of_decide_eq_true asm
               have q17 : x4_1 < (a0.size : Int) := of_decide_eq_true asm
               have hx17 := bt_at a0 x4_1
               replace p17 := eq_true p17
               replace q17 := eq_true q17
               refine start_ (n := 16) (S := fun w' => True) (ds := []) (tb 16 0) (by kernel_rfl) rfl rfl trivial (fun hHeld => ?_); refine with_tabW spec_ParseSignal.tab7 spec_ParseSignal.bits7 (fun HT_ HW_ => ?_)
               generalize wc.drew = w39 at BK557 HB hHeld ⊢
               refine pu 0 (some 26) (tb 16 1) ?_
               refine pu 1 (some 27) (tb 16 3) ?_
               refine pu 2 (some 28) (tb 16 7) ?_
               refine pu 4 (some 30) (tb 16 23) ?_
               refine pu 5 (some 31) (tb 16 55) ?_
               refine pu 8 (some 34) (tb 16 311) ?_
               refine pu 9 (some 35) (tb 16 823) ?_
               refine pu 10 (some 36) (tb 16 1847) ?_
               refine pu 11 (some 37) (tb 16 3895) ?_
               refine take_ (i := 6) (N := some 32) (v := ?_) (a' := ?_) (tb 16 3959) rfl rfl (take_ofW HT_.out HW_.out (by kernel_rfl)) (fun _ _ _ h => h) (Or.inl ⟨by rfl, ?_⟩) hHeld ?_ ?_
               rotate_left
               ·intro w' _
                go_simp
                with_reducible rfl
               rotate_left
               ·simp only [Act.put, List.setIfInBounds_toArray, List.set_cons_zero, List.set_cons_succ, i64_w, i32_w]
                rfl
               refine pu 7 (some 33) (tb 16 4087) ?_
               refine join_ (σ := Nat) 1 (tb 16 32767) (fun s_ => [(29, .int .i64 t558), (38, .int .i64 t559), (5, .pointer (some ⟨s_, 0, none⟩)), (39, .agg #[.int .i64 t558, .bool ((bt a0 x4_1) == 60), .int .i64 t559])]) (fun s_ w' => (w'.heap[gb557]? = some (.cells #[.int .i64 x558000_1, .bool x558001_1, .int .i64 x558002_1] 36 (0, 0))) ∧ (w'.heap[s_]? = some (.cells #[.int .i64 0, .bool false, .int .i64 0] 36 (0, 0))) ∧ (w.heap.size ≤ s_) ∧ (w.heap.size ≤ s_) ∧ (gb557 ≠ s_) ∧ (s_ ≠ gb557) ∧ (Below w.heap.size w w')) ?_ ?_
               rotate_left
               ·intro hCont
                refine two_ (i := 3) (j := 14) (Ni := some 29) (Nj := some 5) (tb 16 4095) (tb 16 20471) rfl rfl rfl rfl (two_of HT_.out (by kernel_rfl)) (by decide) (by decide) (fun K hK => ?_) (fun K hK => ?_)
                ·skip
                 refine goes_ Tryz.func79 (by kernel_rfl) rfl #[.string (a0.extract 0 (x4_1 : Int).toNat)] (by rfl) rfl rfl (by (try simp only [List.map_toArray, List.map_cons, List.map_nil]); first | done | rfl | (simp only [List.length_drop, List.length_take]; rfl)) ?_
                 with_reducible refine (spec_l1Read.calls kj6 (a0.extract 0 (x4_1 : Int).toNat) t558 _ A15.out).mono ?_
                 rintro e w' ⟨rfl, ⟨nd, rfl⟩⟩
                 refine ⟨_, rfl, ?_⟩
                 refine hK.out _ _ trivial (fun hHeld => ?_)
                 clear hK K
                 refine nm (some 29) ?_
                 refine two_ (i := 12) (j := 14) (Ni := some 38) (Nj := some 5) (tb 16 8191) (tb 16 20479) rfl rfl rfl rfl (two_of HT_.out (by kernel_rfl)) (by decide) (by decide) (fun K hK => ?_) (fun K hK => ?_)
                 ·skip
                  refine goes_ Tryz.func79 (by kernel_rfl) rfl #[.string (a0.extract ((ji18) : Int).toNat a0.size)] (by rfl) rfl rfl (by (try simp only [List.map_toArray, List.map_cons, List.map_nil]); first | done | (simp only [hji18]; rfl) | rfl | (simp only [List.length_drop, List.length_take]; rfl)) ?_
                  with_reducible refine (spec_l1Read.calls kj6 (a0.extract ((ji18) : Int).toNat a0.size) t559 _ A21.out).mono ?_
                  rintro e w' ⟨rfl, ⟨nd, rfl⟩⟩
                  refine ⟨_, rfl, ?_⟩
                  refine hK.out _ _ trivial (fun hHeld => ?_)
                  clear hK K
                  refine nm (some 38) ?_
                  refine pu 13 (some 39) (tb 16 16383) ?_
                  refine one_ (i := 14) (N := some 5) (tb 16 32767) rfl rfl (one_of HT_.out (by kernel_rfl)) (by decide) (fun K hK => ?_)
                  refine box_step ?hg (N := 5) ?hd (cs := #[.int .i64 0, .bool false, .int .i64 0]) (t := 36) ?hr ?_; (case hd => rfl); (case hg => rfl); (case hr => first | (go_simp; done) | (go_simp; rfl))
                  intro gb560 hg w40 hbox hb
                  have BK560 := Aside0.mk (hbox)
                  have GW560 := gs hg
                  have GE560 := gs hg
                  replace HB := bs hb
                  have NB557_560 := nl BK557 hg
                  have NB560_557 := ng BK557 hg
                  replace BK557 := nk BK557 hb
                  clear hb hbox hg
                  refine hK.out _ _ trivial (fun hHeld => ?_)
                  clear hK K
                  refine nm (some 5) ?_
                  exact norm_ (by simp only [putAll, Act.put, List.setIfInBounds_toArray, List.set_cons_zero, List.set_cons_succ]) (hCont (gb560) _ ⟨(pk BK557), (pk BK560), GW560.out, GE560.out, NB557_560.out, NB560_557.out, bw⟩)
                 ·skip
                  refine box_step ?hg (N := 5) ?hd (cs := #[.int .i64 0, .bool false, .int .i64 0]) (t := 36) ?hr ?_; (case hd => rfl); (case hg => rfl); (case hr => first | (go_simp; done) | (go_simp; rfl))
                  intro gb560 hg w40 hbox hb
                  have BK560 := Aside0.mk (hbox)
                  have GW560 := gs hg
                  have GE560 := gs hg
                  replace HB := bs hb
                  have NB557_560 := nl BK557 hg
                  have NB560_557 := ng BK557 hg
                  replace BK557 := nk BK557 hb
                  clear hb hbox hg
                  refine hK.out _ _ trivial (fun hHeld => ?_)
                  clear hK K
                  refine nm (some 5) ?_
                  refine one_ (i := 12) (N := some 38) (tb 16 24575) rfl rfl (one_of HT_.out (by kernel_rfl)) (by decide) (fun K hK => ?_)
                  refine goes_ Tryz.func79 (by kernel_rfl) rfl #[.string (a0.extract ((ji18) : Int).toNat a0.size)] (by rfl) rfl rfl (by (try simp only [List.map_toArray, List.map_cons, List.map_nil]); first | done | (simp only [hji18]; rfl) | rfl | (simp only [List.length_drop, List.length_take]; rfl)) ?_
                  with_reducible refine (spec_l1Read.calls kj6 (a0.extract ((ji18) : Int).toNat a0.size) t559 _ A21.out).mono ?_
                  rintro e w' ⟨rfl, ⟨nd, rfl⟩⟩
                  refine ⟨_, rfl, ?_⟩
                  refine hK.out _ _ trivial (fun hHeld => ?_)
                  clear hK K
                  refine nm (some 38) ?_
                  refine pu 13 (some 39) (tb 16 32767) ?_
                  exact norm_ (by simp only [putAll, Act.put, List.setIfInBounds_toArray, List.set_cons_zero, List.set_cons_succ]) (hCont (gb560) _ ⟨(pk BK557), (pk BK560), GW560.out, GE560.out, NB557_560.out, NB560_557.out, bw⟩)
                ·skip
                 refine box_step ?hg (N := 5) ?hd (cs := #[.int .i64 0, .bool false, .int .i64 0]) (t := 36) ?hr ?_; (case hd => rfl); (case hg => rfl); (case hr => first | (go_simp; done) | (go_simp; rfl))
                 intro gb560 hg w40 hbox hb
                 have BK560 := Aside0.mk (hbox)
                 have GW560 := gs hg
                 have GE560 := gs hg
                 replace HB := bs hb
                 have NB557_560 := nl BK557 hg
                 have NB560_557 := ng BK557 hg
                 replace BK557 := nk BK557 hb
                 clear hb hbox hg
                 refine hK.out _ _ trivial (fun hHeld => ?_)
                 clear hK K
                 refine nm (some 5) ?_
                 refine one_ (i := 3) (N := some 29) (tb 16 20479) rfl rfl (one_of HT_.out (by kernel_rfl)) (by decide) (fun K hK => ?_)
                 refine goes_ Tryz.func79 (by kernel_rfl) rfl #[.string (a0.extract 0 (x4_1 : Int).toNat)] (by rfl) rfl rfl (by (try simp only [List.map_toArray, List.map_cons, List.map_nil]); first | done | rfl | (simp only [List.length_drop, List.length_take]; rfl)) ?_
                 with_reducible refine (spec_l1Read.calls kj6 (a0.extract 0 (x4_1 : Int).toNat) t558 _ A15.out).mono ?_
                 rintro e w' ⟨rfl, ⟨nd, rfl⟩⟩
                 refine ⟨_, rfl, ?_⟩
                 refine hK.out _ _ trivial (fun hHeld => ?_)
                 clear hK K
                 refine nm (some 29) ?_
                 refine one_ (i := 12) (N := some 38) (tb 16 24575) rfl rfl (one_of HT_.out (by kernel_rfl)) (by decide) (fun K hK => ?_)
                 refine goes_ Tryz.func79 (by kernel_rfl) rfl #[.string (a0.extract ((ji18) : Int).toNat a0.size)] (by rfl) rfl rfl (by (try simp only [List.map_toArray, List.map_cons, List.map_nil]); first | done | (simp only [hji18]; rfl) | rfl | (simp only [List.length_drop, List.length_take]; rfl)) ?_
                 with_reducible refine (spec_l1Read.calls kj6 (a0.extract ((ji18) : Int).toNat a0.size) t559 _ A21.out).mono ?_
                 rintro e w' ⟨rfl, ⟨nd, rfl⟩⟩
                 refine ⟨_, rfl, ?_⟩
                 refine hK.out _ _ trivial (fun hHeld => ?_)
                 clear hK K
                 refine nm (some 38) ?_
                 refine pu 13 (some 39) (tb 16 32767) ?_
                 exact norm_ (by simp only [putAll, Act.put, List.setIfInBounds_toArray, List.set_cons_zero, List.set_cons_succ]) (hCont (gb560) _ ⟨(pk BK557), (pk BK560), GW560.out, GE560.out, NB557_560.out, NB560_557.out, bw⟩)
               rintro gb560 w41 ⟨h0_, h1_, h2_, h3_, h4_, h5_, h6_⟩
               have n0_ : Aside0 (w41.heap[gb557]? = some (.cells #[.int .i64 x558000_1, .bool x558001_1, .int .i64 x558002_1] 36 (0, 0))) := ⟨h0_⟩
               have n1_ : Aside0 (w41.heap[gb560]? = some (.cells #[.int .i64 0, .bool false, .int .i64 0] 36 (0, 0))) := ⟨h1_⟩
               have n2_ : Aside0 (w.heap.size ≤ gb560) := ⟨h2_⟩
               have n3_ : Aside0 (w.heap.size ≤ gb560) := ⟨h3_⟩
               have n4_ : Aside0 (gb557 ≠ gb560) := ⟨h4_⟩
               have n5_ : Aside0 (gb560 ≠ gb557) := ⟨h5_⟩
               have n6_ : Aside0 (Below w.heap.size w w41) := ⟨h6_⟩
               clear BK557
               clear HB
               clear h0_ h1_ h2_ h3_ h4_ h5_ h6_
               have BK557 := n0_
               have BK560 := n1_
               have GW560 := n2_
               have GE560 := n3_
               have NB557_560 := n4_
               have NB560_557 := n5_
               have HB := n6_
               clear n0_ n1_ n2_ n3_ n4_ n5_ n6_
               have hHeld := trivial
               refine norm_ (a' := ?_) ?_ ?_
               rotate_left
               ·simp only [putAll, Act.put, List.setIfInBounds_toArray, List.set_cons_zero, List.set_cons_succ]
                rfl
               refine one_ (i := 15) (N := none) (tb 16 65535) rfl rfl (one_of HT_.out (by kernel_rfl)) (by decide) (fun K hK => ?_)
               have hs42 : w41.cell? ⟨gb560, 0, none⟩ = some (.int .i64 0) := ec BK560
               have hfs42 := blk_frozen BK560.out 0
               have hns42_0 := NB557_560.out
               have hms42_0 := NB560_557.out
               have hs43 : w41.cell? ⟨gb560, 1, none⟩ = some (.bool false) := ec BK560
               have hfs43 := blk_frozen BK560.out 1
               have hns43_0 := NB557_560.out
               have hms43_0 := NB560_557.out
               have hs44 : w41.cell? ⟨gb560, 2, none⟩ = some (.int .i64 0) := ec BK560
               have hfs44 := blk_frozen BK560.out 2
               have hns44_0 := NB557_560.out
               have hms44_0 := NB560_557.out
               refine skip_ (w1 := ?_) (by rfl) rfl ?_ ?_
               rotate_left
               ·go_simp
                rfl
               refine hK.out _ _ trivial (fun hHeld => ?_)
               clear hK K
               refine done_ (done_of HT_.out (by kernel_rfl)) ?_
               have hnb45 := NB560_557.out
               have hnc45 := NB557_560.out
               have hcz46_0 := bc BK560 0 (.int .i64 0)
               have hcz46_1 := bc BK560 1 (.bool false)
               have hcz46_2 := bc BK560 2 (.int .i64 0)
               have hfz46_0 := blk_frozen BK560.out 0
               have hfz46_1 := blk_frozen BK560.out 1
               have hfz46_2 := blk_frozen BK560.out 2
               try go_wp2_with (first | ((with_reducible refine gate_callee (f := 72) rfl ?_); refine gl (some 41) Tryz.func72 #[.int .i64 100, .agg #[.int .i64 t558, .bool ((bt a0 x4_1) == 60), .int .i64 t559]] ?_; (with_reducible refine (spec_siSignal.calls 100 t558 ((bt a0 x4_1) == 60) t559 true _ A22.out).mono ?_); rintro e w47 ⟨rfl, hb⟩; refine ⟨_, rfl, ?_⟩; replace BK557 := nf BK557 hb; replace BK560 := Aside0.mk (blk_below (g := gb560) (o := .cells #[.int .i64 t558, .bool ((bt a0 x4_1) == 60), .int .i64 t559] 36 (0, 0)) (by (with_reducible repeat (first | refine blk_drewN ?_ _ | refine blk_drew ?_ | refine blk_alloc ?_ _)); refine blk_put (cs := #[.int .i64 t558, .bool ((bt a0 x4_1) == 60), .int .i64 0]) ?_ 2 _ rfl; (with_reducible repeat (first | refine blk_drewN ?_ _ | refine blk_drew ?_ | refine blk_alloc ?_ _)); refine blk_put (cs := #[.int .i64 t558, .bool false, .int .i64 0]) ?_ 1 _ rfl; (with_reducible repeat (first | refine blk_drewN ?_ _ | refine blk_drew ?_ | refine blk_alloc ?_ _)); refine blk_put (cs := #[.int .i64 0, .bool false, .int .i64 0]) ?_ 0 _ rfl; (with_reducible repeat (first | refine blk_drewN ?_ _ | refine blk_drew ?_ | refine blk_alloc ?_ _)); exact BK560.out) hb); replace HB := bs hb; (try clear hb); have hcz48_0 := bc BK560 0 (.int .i64 t558); have hcz48_1 := bc BK560 1 (.bool ((bt a0 x4_1) == 60)); have hcz48_2 := bc BK560 2 (.int .i64 t559); have hfz48_0 := blk_frozen BK560.out 0; have hfz48_1 := blk_frozen BK560.out 1; have hfz48_2 := blk_frozen BK560.out 2) | (go_at_call 73; (with_reducible refine (spec_siText.calls kj6 t558 ((bt a0 x4_1) == 60) t559 t562 _ A24.out).mono ?_); rintro e w49 ⟨rfl, hb⟩; replace BK557 := nk BK557 hb; replace BK560 := nk BK560 hb; replace HB := bs hb; (try clear hb)))
               go_roundg kj6
               case measure => have := HK1.out; have := HJ6.out; omega
               case rel => exact ⟨(ji18), (x558000_1), (x558001_1), (x558002_1), (by first | rfl | (simp; done) | (simp only [← hji18] <;> (first | rfl | simp)) | (simp [*]; done)), H', ⟨by have := HK1.out; have := HJ6.out; omega⟩, ⟨pk BK557⟩, ⟨bw⟩⟩
             ·replace c23 := Bool.eq_false_iff.mpr c23
              subst c23
              rw [if_neg (show ¬ (false = true) by decide)] at H
              have H' := Aside0.mk H
              clear H
              try go_wp2
              replace BK557 := Aside0.mk (blk_drew BK557.out)
              replace HB := Aside0.mk (below_drew1 HB.out)
              have p17 : 0 ≤ (x4_1 : Int) := of_decide_eq_true asm
              have q17 : x4_1 < (a0.size : Int) := of_decide_eq_true asm
              have hx17 := bt_at a0 x4_1
              replace p17 := eq_true p17
              replace q17 := eq_true q17
              refine start_ (n := 16) (S := fun w' => True) (ds := []) (tb 16 0) (by kernel_rfl) rfl rfl trivial (fun hHeld => ?_); refine with_tabW spec_ParseSignal.tab7 spec_ParseSignal.bits7 (fun HT_ HW_ => ?_)
              generalize wc.drew = w50 at BK557 HB hHeld ⊢
              refine pu 0 (some 26) (tb 16 1) ?_
              refine pu 1 (some 27) (tb 16 3) ?_
              refine pu 2 (some 28) (tb 16 7) ?_
              refine pu 4 (some 30) (tb 16 23) ?_
              refine pu 5 (some 31) (tb 16 55) ?_
              refine pu 8 (some 34) (tb 16 311) ?_
              refine pu 9 (some 35) (tb 16 823) ?_
              refine pu 10 (some 36) (tb 16 1847) ?_
              refine pu 11 (some 37) (tb 16 3895) ?_
              refine take_ (i := 6) (N := some 32) (v := ?_) (a' := ?_) (tb 16 3959) rfl rfl (take_ofW HT_.out HW_.out (by kernel_rfl)) (fun _ _ _ h => h) (Or.inl ⟨by rfl, ?_⟩) hHeld ?_ ?_
              rotate_left
              ·intro w' _
               go_simp
               with_reducible rfl
              rotate_left
              ·simp only [Act.put, List.setIfInBounds_toArray, List.set_cons_zero, List.set_cons_succ, i64_w, i32_w]
               rfl
              refine pu 7 (some 33) (tb 16 4087) ?_
              refine join_ (σ := Nat) 1 (tb 16 32767) (fun s_ => [(29, .int .i64 t558), (38, .int .i64 t559), (5, .pointer (some ⟨s_, 0, none⟩)), (39, .agg #[.int .i64 t558, .bool ((bt a0 x4_1) == 60), .int .i64 t559])]) (fun s_ w' => (w'.heap[gb557]? = some (.cells #[.int .i64 x558000_1, .bool x558001_1, .int .i64 x558002_1] 36 (0, 0))) ∧ (w'.heap[s_]? = some (.cells #[.int .i64 0, .bool false, .int .i64 0] 36 (0, 0))) ∧ (w.heap.size ≤ s_) ∧ (w.heap.size ≤ s_) ∧ (gb557 ≠ s_) ∧ (s_ ≠ gb557) ∧ (Below w.heap.size w w')) ?_ ?_
              rotate_left
              ·intro hCont
               refine two_ (i := 3) (j := 14) (Ni := some 29) (Nj := some 5) (tb 16 4095) (tb 16 20471) rfl rfl rfl rfl (two_of HT_.out (by kernel_rfl)) (by decide) (by decide) (fun K hK => ?_) (fun K hK => ?_)
               ·skip
                refine goes_ Tryz.func79 (by kernel_rfl) rfl #[.string (a0.extract 0 (x4_1 : Int).toNat)] (by rfl) rfl rfl (by (try simp only [List.map_toArray, List.map_cons, List.map_nil]); first | done | rfl | (simp only [List.length_drop, List.length_take]; rfl)) ?_
                with_reducible refine (spec_l1Read.calls kj6 (a0.extract 0 (x4_1 : Int).toNat) t558 _ A15.out).mono ?_
                rintro e w' ⟨rfl, ⟨nd, rfl⟩⟩
                refine ⟨_, rfl, ?_⟩
                refine hK.out _ _ trivial (fun hHeld => ?_)
                clear hK K
                refine nm (some 29) ?_
                refine two_ (i := 12) (j := 14) (Ni := some 38) (Nj := some 5) (tb 16 8191) (tb 16 20479) rfl rfl rfl rfl (two_of HT_.out (by kernel_rfl)) (by decide) (by decide) (fun K hK => ?_) (fun K hK => ?_)
                ·skip
                 refine goes_ Tryz.func79 (by kernel_rfl) rfl #[.string (a0.extract ((ji18) : Int).toNat a0.size)] (by rfl) rfl rfl (by (try simp only [List.map_toArray, List.map_cons, List.map_nil]); first | done | (simp only [hji18]; rfl) | rfl | (simp only [List.length_drop, List.length_take]; rfl)) ?_
                 with_reducible refine (spec_l1Read.calls kj6 (a0.extract ((ji18) : Int).toNat a0.size) t559 _ A21.out).mono ?_
                 rintro e w' ⟨rfl, ⟨nd, rfl⟩⟩
                 refine ⟨_, rfl, ?_⟩
                 refine hK.out _ _ trivial (fun hHeld => ?_)
                 clear hK K
                 refine nm (some 38) ?_
                 refine pu 13 (some 39) (tb 16 16383) ?_
                 refine one_ (i := 14) (N := some 5) (tb 16 32767) rfl rfl (one_of HT_.out (by kernel_rfl)) (by decide) (fun K hK => ?_)
                 refine box_step ?hg (N := 5) ?hd (cs := #[.int .i64 0, .bool false, .int .i64 0]) (t := 36) ?hr ?_; (case hd => rfl); (case hg => rfl); (case hr => first | (go_simp; done) | (go_simp; rfl))
                 intro gb560 hg w51 hbox hb
                 have BK560 := Aside0.mk (hbox)
                 have GW560 := gs hg
                 have GE560 := gs hg
                 replace HB := bs hb
                 have NB557_560 := nl BK557 hg
                 have NB560_557 := ng BK557 hg
                 replace BK557 := nk BK557 hb
                 clear hb hbox hg
                 refine hK.out _ _ trivial (fun hHeld => ?_)
                 clear hK K
                 refine nm (some 5) ?_
                 exact norm_ (by simp only [putAll, Act.put, List.setIfInBounds_toArray, List.set_cons_zero, List.set_cons_succ]) (hCont (gb560) _ ⟨(pk BK557), (pk BK560), GW560.out, GE560.out, NB557_560.out, NB560_557.out, bw⟩)
                ·skip
                 refine box_step ?hg (N := 5) ?hd (cs := #[.int .i64 0, .bool false, .int .i64 0]) (t := 36) ?hr ?_; (case hd => rfl); (case hg => rfl); (case hr => first | (go_simp; done) | (go_simp; rfl))
                 intro gb560 hg w51 hbox hb
                 have BK560 := Aside0.mk (hbox)
                 have GW560 := gs hg
                 have GE560 := gs hg
                 replace HB := bs hb
                 have NB557_560 := nl BK557 hg
                 have NB560_557 := ng BK557 hg
                 replace BK557 := nk BK557 hb
                 clear hb hbox hg
                 refine hK.out _ _ trivial (fun hHeld => ?_)
                 clear hK K
                 refine nm (some 5) ?_
                 refine one_ (i := 12) (N := some 38) (tb 16 24575) rfl rfl (one_of HT_.out (by kernel_rfl)) (by decide) (fun K hK => ?_)
                 refine goes_ Tryz.func79 (by kernel_rfl) rfl #[.string (a0.extract ((ji18) : Int).toNat a0.size)] (by rfl) rfl rfl (by (try simp only [List.map_toArray, List.map_cons, List.map_nil]); first | done | (simp only [hji18]; rfl) | rfl | (simp only [List.length_drop, List.length_take]; rfl)) ?_
                 with_reducible refine (spec_l1Read.calls kj6 (a0.extract ((ji18) : Int).toNat a0.size) t559 _ A21.out).mono ?_
                 rintro e w' ⟨rfl, ⟨nd, rfl⟩⟩
                 refine ⟨_, rfl, ?_⟩
                 refine hK.out _ _ trivial (fun hHeld => ?_)
                 clear hK K
                 refine nm (some 38) ?_
                 refine pu 13 (some 39) (tb 16 32767) ?_
                 exact norm_ (by simp only [putAll, Act.put, List.setIfInBounds_toArray, List.set_cons_zero, List.set_cons_succ]) (hCont (gb560) _ ⟨(pk BK557), (pk BK560), GW560.out, GE560.out, NB557_560.out, NB560_557.out, bw⟩)
               ·skip
                refine box_step ?hg (N := 5) ?hd (cs := #[.int .i64 0, .bool false, .int .i64 0]) (t := 36) ?hr ?_; (case hd => rfl); (case hg => rfl); (case hr => first | (go_simp; done) | (go_simp; rfl))
                intro gb560 hg w51 hbox hb
                have BK560 := Aside0.mk (hbox)
                have GW560 := gs hg
                have GE560 := gs hg
                replace HB := bs hb
                have NB557_560 := nl BK557 hg
                have NB560_557 := ng BK557 hg
                replace BK557 := nk BK557 hb
                clear hb hbox hg
                refine hK.out _ _ trivial (fun hHeld => ?_)
                clear hK K
                refine nm (some 5) ?_
                refine one_ (i := 3) (N := some 29) (tb 16 20479) rfl rfl (one_of HT_.out (by kernel_rfl)) (by decide) (fun K hK => ?_)
                refine goes_ Tryz.func79 (by kernel_rfl) rfl #[.string (a0.extract 0 (x4_1 : Int).toNat)] (by rfl) rfl rfl (by (try simp only [List.map_toArray, List.map_cons, List.map_nil]); first | done | rfl | (simp only [List.length_drop, List.length_take]; rfl)) ?_
                with_reducible refine (spec_l1Read.calls kj6 (a0.extract 0 (x4_1 : Int).toNat) t558 _ A15.out).mono ?_
                rintro e w' ⟨rfl, ⟨nd, rfl⟩⟩
                refine ⟨_, rfl, ?_⟩
                refine hK.out _ _ trivial (fun hHeld => ?_)
                clear hK K
                refine nm (some 29) ?_
                refine one_ (i := 12) (N := some 38) (tb 16 24575) rfl rfl (one_of HT_.out (by kernel_rfl)) (by decide) (fun K hK => ?_)
                refine goes_ Tryz.func79 (by kernel_rfl) rfl #[.string (a0.extract ((ji18) : Int).toNat a0.size)] (by rfl) rfl rfl (by (try simp only [List.map_toArray, List.map_cons, List.map_nil]); first | done | (simp only [hji18]; rfl) | rfl | (simp only [List.length_drop, List.length_take]; rfl)) ?_
                with_reducible refine (spec_l1Read.calls kj6 (a0.extract ((ji18) : Int).toNat a0.size) t559 _ A21.out).mono ?_
                rintro e w' ⟨rfl, ⟨nd, rfl⟩⟩
                refine ⟨_, rfl, ?_⟩
                refine hK.out _ _ trivial (fun hHeld => ?_)
                clear hK K
                refine nm (some 38) ?_
                refine pu 13 (some 39) (tb 16 32767) ?_
                exact norm_ (by simp only [putAll, Act.put, List.setIfInBounds_toArray, List.set_cons_zero, List.set_cons_succ]) (hCont (gb560) _ ⟨(pk BK557), (pk BK560), GW560.out, GE560.out, NB557_560.out, NB560_557.out, bw⟩)
              rintro gb560 w52 ⟨h0_, h1_, h2_, h3_, h4_, h5_, h6_⟩
              have n0_ : Aside0 (w52.heap[gb557]? = some (.cells #[.int .i64 x558000_1, .bool x558001_1, .int .i64 x558002_1] 36 (0, 0))) := ⟨h0_⟩
              have n1_ : Aside0 (w52.heap[gb560]? = some (.cells #[.int .i64 0, .bool false, .int .i64 0] 36 (0, 0))) := ⟨h1_⟩
              have n2_ : Aside0 (w.heap.size ≤ gb560) := ⟨h2_⟩
              have n3_ : Aside0 (w.heap.size ≤ gb560) := ⟨h3_⟩
              have n4_ : Aside0 (gb557 ≠ gb560) := ⟨h4_⟩
              have n5_ : Aside0 (gb560 ≠ gb557) := ⟨h5_⟩
              have n6_ : Aside0 (Below w.heap.size w w52) := ⟨h6_⟩
              clear BK557
              clear HB
              clear h0_ h1_ h2_ h3_ h4_ h5_ h6_
              have BK557 := n0_
              have BK560 := n1_
              have GW560 := n2_
              have GE560 := n3_
              have NB557_560 := n4_
              have NB560_557 := n5_
              have HB := n6_
              clear n0_ n1_ n2_ n3_ n4_ n5_ n6_
              have hHeld := trivial
              refine norm_ (a' := ?_) ?_ ?_
              rotate_left
              ·simp only [putAll, Act.put, List.setIfInBounds_toArray, List.set_cons_zero, List.set_cons_succ]
               rfl
              refine one_ (i := 15) (N := none) (tb 16 65535) rfl rfl (one_of HT_.out (by kernel_rfl)) (by decide) (fun K hK => ?_)
              have hs53 : w52.cell? ⟨gb560, 0, none⟩ = some (.int .i64 0) := ec BK560
              have hfs53 := blk_frozen BK560.out 0
              have hns53_0 := NB557_560.out
              have hms53_0 := NB560_557.out
              have hs54 : w52.cell? ⟨gb560, 1, none⟩ = some (.bool false) := ec BK560
              have hfs54 := blk_frozen BK560.out 1
              have hns54_0 := NB557_560.out
              have hms54_0 := NB560_557.out
              have hs55 : w52.cell? ⟨gb560, 2, none⟩ = some (.int .i64 0) := ec BK560
              have hfs55 := blk_frozen BK560.out 2
              have hns55_0 := NB557_560.out
              have hms55_0 := NB560_557.out
              refine skip_ (w1 := ?_) (by rfl) rfl ?_ ?_
              rotate_left
              ·go_simp
               rfl
              refine hK.out _ _ trivial (fun hHeld => ?_)
              clear hK K
              refine done_ (done_of HT_.out (by kernel_rfl)) ?_
              have hnb56 := NB560_557.out
              have hnc56 := NB557_560.out
              have hcz57_0 := bc BK560 0 (.int .i64 0)
              have hcz57_1 := bc BK560 1 (.bool false)
              have hcz57_2 := bc BK560 2 (.int .i64 0)
              have hfz57_0 := blk_frozen BK560.out 0
              have hfz57_1 := blk_frozen BK560.out 1
              have hfz57_2 := blk_frozen BK560.out 2
              try go_wp2_with (first | ((with_reducible refine gate_callee (f := 72) rfl ?_); refine gl (some 41) Tryz.func72 #[.int .i64 100, .agg #[.int .i64 t558, .bool ((bt a0 x4_1) == 60), .int .i64 t559]] ?_; (with_reducible refine (spec_siSignal.calls 100 t558 ((bt a0 x4_1) == 60) t559 false _ A22.out).mono ?_); rintro e w58 ⟨rfl, hb⟩; refine ⟨_, rfl, ?_⟩; replace BK557 := nf BK557 hb; replace BK560 := Aside0.mk (blk_below (g := gb560) (o := .cells #[.int .i64 t558, .bool ((bt a0 x4_1) == 60), .int .i64 t559] 36 (0, 0)) (by (with_reducible repeat (first | refine blk_drewN ?_ _ | refine blk_drew ?_ | refine blk_alloc ?_ _)); refine blk_put (cs := #[.int .i64 t558, .bool ((bt a0 x4_1) == 60), .int .i64 0]) ?_ 2 _ rfl; (with_reducible repeat (first | refine blk_drewN ?_ _ | refine blk_drew ?_ | refine blk_alloc ?_ _)); refine blk_put (cs := #[.int .i64 t558, .bool false, .int .i64 0]) ?_ 1 _ rfl; (with_reducible repeat (first | refine blk_drewN ?_ _ | refine blk_drew ?_ | refine blk_alloc ?_ _)); refine blk_put (cs := #[.int .i64 0, .bool false, .int .i64 0]) ?_ 0 _ rfl; (with_reducible repeat (first | refine blk_drewN ?_ _ | refine blk_drew ?_ | refine blk_alloc ?_ _)); exact BK560.out) hb); replace HB := bs hb; (try clear hb)))
              go_roundg kj6
              case measure => have := HK1.out; have := HJ6.out; omega
              case rel => exact ⟨(ji18), (x558000_1), (x558001_1), (x558002_1), (by first | rfl | (simp; done) | (simp only [← hji18] <;> (first | rfl | simp)) | (simp [*]; done)), H', ⟨by have := HK1.out; have := HJ6.out; omega⟩, ⟨pk BK557⟩, ⟨bw⟩⟩
            ·rw [if_neg c20] at H
             exact absurd H (by simp)
           ·rw [if_neg c19] at H
            exact absurd H (by simp)
          ·rw [if_neg c16] at H
           exact absurd H (by simp)
         ·rw [if_neg c14] at H
          exact absurd H (by simp)
        ·rw [if_neg c13] at H
         exact absurd H (by simp)
    ·rw [if_neg c6] at H
     have c6b0 : decide (x4_1 < (a0.size : Int)) = false := decide_eq_false c6
     clear c6
     simp only [Option.some.injEq, Prod.mk.injEq] at H
     obtain ⟨rfl, rfl, rfl, rfl⟩ := H
     have hcz59_0 : wr.cell? ⟨gb557, 0, none⟩ = some (.int .i64 x558000_1) := ec BK557
     have hcz59_1 : wr.cell? ⟨gb557, 1, none⟩ = some (.bool x558001_1) := ec BK557
     have hcz59_2 : wr.cell? ⟨gb557, 2, none⟩ = some (.int .i64 x558002_1) := ec BK557
     have hfz59_0 := blk_frozen BK557.out 0
     have hfz59_1 := blk_frozen BK557.out 1
     have hfz59_2 := blk_frozen BK557.out 2
     go_wp2
     refine bodyPost_ret (results_ct rfl _ _ gb557 36 #[.int .i64 0, .bool false, .int .i64 0] (0, 0) _ rfl (by (with_reducible repeat (first | refine blk_drewN ?_ _ | refine blk_drew ?_ | refine blk_alloc ?_ _)); refine blk_put (cs := #[.int .i64 0, .bool false, .int .i64 x558002_1]) ?_ 2 _ rfl; (with_reducible repeat (first | refine blk_drewN ?_ _ | refine blk_drew ?_ | refine blk_alloc ?_ _)); refine blk_put (cs := #[.int .i64 0, .bool x558001_1, .int .i64 x558002_1]) ?_ 1 _ rfl; (with_reducible repeat (first | refine blk_drewN ?_ _ | refine blk_drew ?_ | refine blk_alloc ?_ _)); refine blk_put (cs := #[.int .i64 x558000_1, .bool x558001_1, .int .i64 x558002_1]) ?_ 0 _ rfl; (with_reducible repeat (first | refine blk_drewN ?_ _ | refine blk_drew ?_ | refine blk_alloc ?_ _)); exact BK557.out) Tryz.underlying36 rfl (by kernel_rfl)) rfl ?_
     exact ⟨rs, bw⟩

end Go.Proofs.YtmhbcfdodcnjmaaGreatDoor.PFnSignalsReach
