-- Laid by xprint, a program of this session that runs over the kit's print.
import Derived.Test.YtefihklpegcmpaaGreatDoorPFnSignalsReachOfAllx0
import Derived.Test.YtefihklpegcmpaaGreatDoorPFnSignalsReachOfAllx2
namespace Go.Proofs.YtefihklpegcmpaaGreatDoor.PFnSignalsReachOfAll
open Go.RowKit Go.Proofs.YtefihklpegcmpaaGreatDoorW.PrintWords Go.Proofs.YtefihklpegcmpaaGreatDoorW.PrintLast Go.Proofs.YtefihklpegcmpaaGreatDoorW.PrintMore Go.Proofs.YtefihklpegcmpaaGreatDoor.Sq
attribute [local go_sem] max2_int min2_int max_two min_two max_three min_three max_four min_four   -- for this text's walks alone
set_option linter.unusedVariables false
set_option linter.unusedSimpArgs false

/-! ### impl_HeardBy: function 4 -/
mutual
def impl_HeardBy.j0 : Nat → Int → List (S25) → Int → Bool → Option (List Int × Bool)
  | 0, _, _, _, _ => none
  | k + 1, x0, x1, x2, x19 => if x19 = true then (some (([] : List Int), false)) else ((impl_heard.f k x0 x1).bind fun t130 => (impl_HeardBy.l0 k x2 (([] : List Int)) t130 (t130.length : Int) 0))
def impl_HeardBy.l0 : Nat → Int → List Int → List Int → Int → Int → Option (List Int × Bool)
  | 0, _, _, _, _, _ => none
  | k + 1, x2, x8, x23, x24, x25 => if x25 < x24 then (if 0 ≤ x25 then (if x25 < (x23.length : Int) then (if (rd x23 x25) ≤ x2 then (if x8.length < 17592186044416 then (impl_HeardBy.l0 k x2 (x8 ++ [x25]) x23 x24 (wrap64 (x25 + 1))) else (none)) else (impl_HeardBy.l0 k x2 x8 x23 x24 (wrap64 (x25 + 1)))) else (none)) else (none)) else (some (x8, true))
end
def impl_HeardBy.f (k : Nat) (a0 : Int) (l1 : List (S25)) (a2 : Int) : Option (List Int × Bool) := (impl_areSignals.f k a0 l1).bind fun t125 => (if t125 = true then ((impl_isSignalTime.f a2).bind fun t126 => (impl_HeardBy.j0 k a0 l1 a2 (!t126))) else (impl_HeardBy.j0 k a0 l1 a2 true))
theorem impl_HeardBy.mono_l : ∀ k, (∀ y0 y1 y2 y3, LeO (impl_HeardBy.j0 k y0 y1 y2 y3) (impl_HeardBy.j0 (k + 1) y0 y1 y2 y3)) ∧ (∀ y0 y1 y2 y3 y4, LeO (impl_HeardBy.l0 k y0 y1 y2 y3 y4) (impl_HeardBy.l0 (k + 1) y0 y1 y2 y3 y4))
  | 0 => ⟨fun _ _ _ _ r h => by simp [impl_HeardBy.j0] at h, fun _ _ _ _ _ r h => by simp [impl_HeardBy.l0] at h⟩
  | k + 1 => by
    obtain ⟨ih0, ih1⟩ := impl_HeardBy.mono_l k
    refine ⟨?_, ?_⟩
    · intro y0 y1 y2 y3
      unfold impl_HeardBy.j0
      repeat' first
      | (with_reducible exact ih0 _ _ _ _)
      | (with_reducible exact ih1 _ _ _ _ _)
      | (with_reducible exact impl_areSignals.mono _ _ _)
      | (with_reducible exact impl_heard.mono _ _ _)
      | (with_reducible exact LeO.refl _)
      | (with_reducible exact LeO.none _)
      | (with_reducible refine LeO.ite ?_ ?_)
      | (with_reducible refine LeO.bind ?_ (fun _ => ?_))
      | exact ih0 _ _ _ _
      | exact ih1 _ _ _ _ _
      | exact impl_areSignals.mono _ _ _
      | exact impl_heard.mono _ _ _
      | exact LeO.none _
      | refine LeO.ite ?_ ?_
      | refine LeO.bind ?_ (fun _ => ?_)
    · intro y0 y1 y2 y3 y4
      unfold impl_HeardBy.l0
      repeat' first
      | (with_reducible exact ih0 _ _ _ _)
      | (with_reducible exact ih1 _ _ _ _ _)
      | (with_reducible exact impl_areSignals.mono _ _ _)
      | (with_reducible exact impl_heard.mono _ _ _)
      | (with_reducible exact LeO.refl _)
      | (with_reducible exact LeO.none _)
      | (with_reducible refine LeO.ite ?_ ?_)
      | (with_reducible refine LeO.bind ?_ (fun _ => ?_))
      | exact ih0 _ _ _ _
      | exact ih1 _ _ _ _ _
      | exact impl_areSignals.mono _ _ _
      | exact impl_heard.mono _ _ _
      | exact LeO.none _
      | refine LeO.ite ?_ ?_
      | refine LeO.bind ?_ (fun _ => ?_)
theorem impl_HeardBy.mono : ∀ a0 a1 a2 k, LeO (impl_HeardBy.f k a0 a1 a2) (impl_HeardBy.f (k + 1) a0 a1 a2) := by
  intro a0 a1 a2 k
  obtain ⟨ih0, ih1⟩ := impl_HeardBy.mono_l k
  unfold impl_HeardBy.f
  repeat' first
      | (with_reducible exact ih0 _ _ _ _)
      | (with_reducible exact ih1 _ _ _ _ _)
      | (with_reducible exact impl_areSignals.mono _ _ _)
      | (with_reducible exact impl_heard.mono _ _ _)
      | (with_reducible exact LeO.refl _)
      | (with_reducible exact LeO.none _)
      | (with_reducible refine LeO.ite ?_ ?_)
      | (with_reducible refine LeO.bind ?_ (fun _ => ?_))
      | exact ih0 _ _ _ _
      | exact ih1 _ _ _ _ _
      | exact impl_areSignals.mono _ _ _
      | exact impl_heard.mono _ _ _
      | exact LeO.none _
      | refine LeO.ite ?_ ?_
      | refine LeO.bind ?_ (fun _ => ?_)
set_option maxHeartbeats 8000000 in
set_option maxRecDepth 100000 in
theorem impl_HeardBy.calls (k : Nat) (a0 : Int) (A1 : Option Addr) (c1 : Nat) (l1 : List (S25)) (a2 : Int) (r1 : List Int) (r2 : Bool) (w : World) (hr1 : Kd.C k25 w A1 l1.length l1) (hc1 : l1.length ≤ c1) (h : impl_HeardBy.f k a0 l1 a2 = some (r1, r2)) :
  Calls Tryz.prog 4 #[.int .i64 a0, .slice A1 l1.length c1, .int .i64 a2] w fun e w' => ∃ v0_ : Value, e = .returned (.tuple #[v0_, .bool r2]) ∧ Kd.R (Kd.int .i64) 3 w' w.heap.size (fun _ => True) v0_ r1 ∧ Below w.heap.size w w' := by
 have HR1 := Aside0.mk hr1
 have HC1 := Aside0.mk hc1
 clear hr1 hc1
 have HB := Aside0.mk (Below.refl w.heap.size w)
 unfold impl_HeardBy.f at h
 have H := h
 clear h
 have HC4 := Aside0.mk H
 clear H
 go_enter Tryz.func4, Tryz.ntmps4
 go_upto_region 1 with (fail)
 go_cut [19] (fun v19 wc => ∃ (kq : Nat) (x19_3 : Bool), v19 = .bool x19_3 ∧ Aside0 (impl_HeardBy.j0 kq a0 l1 a2 x19_3 = some (r1, r2)) ∧ Aside0 (kq ≤ k) ∧ Aside0 (Below w.heap.size w wc))
 case first =>
  have H := HC4.out
  clear HC4
  replace H := Option.bind_eq_some_iff.mp H
  obtain ⟨t125, A50, H⟩ := H
  (try dsimp only at H)
  have A5 := Aside0.mk A50
  clear A50
  by_cases c6 : t125 = true
  ·subst c6
   rw [if_pos rfl] at H
   replace H := Option.bind_eq_some_iff.mp H
   obtain ⟨t126, A70, H⟩ := H
   (try dsimp only at H)
   have A7 := Aside0.mk A70
   clear A70
   have H' := Aside0.mk H
   clear H
   go_wp2_with (first | ((with_reducible refine gate_callee (f := 30) rfl ?_); refine gl (some 13) Tryz.func30 #[.int .i64 a0, .slice A1 l1.length c1] ?_; (with_reducible refine (impl_areSignals.calls k a0 _ _ l1 true _ ?side1 ?side2 A5.out).mono ?_); (case side1 => exact cb HR1); (case side2 => exact HC1.out); rintro e w8 ⟨rfl, hb⟩; refine ⟨_, rfl, ?_⟩; replace HB := bs hb; (try clear hb)) | (go_at_call 31; (with_reducible refine (impl_isSignalTime.calls a2 t126 _ A7.out).mono ?_); rintro e w' ⟨rfl, ⟨nd, rfl⟩⟩))
   go_meet
   case rel => exact ⟨_, (!t126), (rs), H', ⟨by first | omega | exact Nat.le_refl _⟩, ⟨bw⟩⟩
  ·replace c6 := Bool.eq_false_iff.mpr c6
   subst c6
   rw [if_neg (show ¬ (false = true) by decide)] at H
   have H' := Aside0.mk H
   clear H
   go_wp2_with (first | ((with_reducible refine gate_callee (f := 30) rfl ?_); refine gl (some 13) Tryz.func30 #[.int .i64 a0, .slice A1 l1.length c1] ?_; (with_reducible refine (impl_areSignals.calls k a0 _ _ l1 false _ ?side1 ?side2 A5.out).mono ?_); (case side1 => exact cb HR1); (case side2 => exact HC1.out); rintro e w9 ⟨rfl, hb⟩; refine ⟨_, rfl, ?_⟩; replace HB := bs hb; (try clear hb)))
   go_meet
   case rel => exact ⟨_, (true), (rs), H', ⟨by first | omega | exact Nat.le_refl _⟩, ⟨bw⟩⟩
 case rest =>
  clear HC4
  try clear c1
  try clear p2
  try clear c3
  try clear c4
  try clear c6
  obtain ⟨kq, x19_3, rfl, HA, HJ3, HB⟩ := hcut
  cases kq with
  | zero => exact absurd HA.out (by simp [impl_HeardBy.j0])
  | succ kj3 =>
   have H := HA.out
   clear HA
   simp only [impl_HeardBy.j0] at H
   by_cases c10 : x19_3 = true
   ·subst c10
    rw [if_pos rfl] at H
    simp only [Option.some.injEq, Prod.mk.injEq] at H
    obtain ⟨rfl, rfl⟩ := H
    go_wp2
    go_ret2
    exact ⟨_, rs, by first | exact Kd.R_nil _ _ _ _ _ | exact Kd.N_nil _ _ _ _ _ | exact Kd.V_nil _ _ _ _ _ | exact Kd.Q_nil _ _ _ _ _ | exact Kd.S_nil _ _ _ _ _, bw⟩
   ·replace c10 := Bool.eq_false_iff.mpr c10
    subst c10
    rw [if_neg (show ¬ (false = true) by decide)] at H
    obtain ⟨y127, hy127⟩ : ∃ y_ : List Int, y_ = (([] : List Int)) := ⟨_, rfl⟩
    replace H : ((impl_heard.f kj3 a0 l1).bind fun t130 => (impl_HeardBy.l0 kj3 a2 y127 t130 (t130.length : Int) 0)) = some (r1, r2) := by first | (rw [hy127]; with_reducible exact H) | (have H2_ := (Option.bind_some _ _).symm.trans H; rw [hy127]; with_reducible exact H2_) | (have H2_ := (Option.bind_some _ _).symm.trans H; with_reducible exact H2_) | with_reducible exact H | (rw [hy127]; exact H) | exact H
    have Ny127 := Aside0.mk hy127
    clear hy127
    replace H := Option.bind_eq_some_iff.mp H
    obtain ⟨t130, A110, H⟩ := H
    (try dsimp only at H)
    have A11 := Aside0.mk A110
    clear A110
    have H' := Aside0.mk H
    clear H
    go_wp2_with (first | ((with_reducible refine gate_dst (N := 20) rfl ?_); refine Kd.R_lit (Kd.int .i64) _ 3 ?hg (N := 20) ?hd (xs := ([] : List Int)) (inner := []) (ok := fun _ => True) (okp := fun _ => True) ?hr ?hp (fun _ hk => hk) trivial (Below.refl _ _) (Nat.le_refl _) (by simp) ?_; (case hd => rfl); (case hg => rfl); (case hr => first | (go_simp; done) | (go_simp; rfl)); (case hp => exact (Reps.none _ _)); intro v128 w12 ho13 hb hg_ hnew_; clear hg_ hnew_; (first | rw [← Ny127.out] at ho13 | (simp only [Int.reduceToNat] at ho13; rw [← Ny127.out] at ho13)); have HO129 := Aside0.mk (Kd.R_lower ho13 (below_size bw)); replace HB := bs hb; clear hb ho13) | ((with_reducible refine gate_callee (f := 32) rfl ?_); refine gl (some 23) Tryz.func32 #[.int .i64 a0, .slice A1 l1.length c1] ?_; (with_reducible refine (impl_heard.calls kj3 a0 _ _ l1 t130 _ ?side1 ?side2 A11.out).mono ?_); (case side1 => exact cb HR1); (case side2 => exact HC1.out); rintro e w14 ⟨v131, rfl, ho0, hb⟩; refine ⟨_, rfl, ?_⟩; have HO132 := Aside0.mk (Kd.R_lower (Kd.R_new' ho0 (Kd.R_lt (pr HO129))) (below_size bw)); replace HO129 := Aside0.mk (Kd.R_elder' (pr HO129) (Kd.R_base ho0) hb); replace HB := bs hb; (try clear hb); (try clear ho0); obtain ⟨Ao15, co15, eo15⟩ := Kd.R_slice HO132.out; subst eo15))
    go_loopg [8, 25] kj3 (fun kq v8 v25 w' => ∃ (x8_2 : List Int) (x25_2 : Int), v25 = .int .i64 x25_2 ∧ Aside0 (impl_HeardBy.l0 kq a2 x8_2 t130 (t130.length : Int) x25_2 = some (r1, r2)) ∧ Aside0 (kq ≤ kj3) ∧ Aside0 (Kd.R (Kd.int .i64) 3 w' w.heap.size (fun k_ => some k_ ≠ ((.slice Ao15 t130.length co15) : Value).ownBlock) v8 x8_2) ∧ Aside0 (Kd.R (Kd.int .i64) 3 w' w.heap.size (fun k_ => some k_ ≠ (v8 : Value).ownBlock) (.slice Ao15 t130.length co15) t130) ∧ Aside0 (Below w.heap.size w w'))
    case atStart => exact ⟨(y127), (0), (rs), H', ⟨Nat.le_refl _⟩, ⟨by (with_reducible repeat (first | apply Kd.R_alloc | apply Kd.R_drewN | apply Kd.R_drew)); exact Kd.R_mono HO129.out (fun _ hk => hk.2)⟩, ⟨by (with_reducible repeat (first | apply Kd.R_alloc | apply Kd.R_drewN | apply Kd.R_drew)); exact Kd.R_mono HO132.out (fun _ hk => hk.2)⟩, ⟨bw⟩⟩
    case round =>
     clear H'
     try clear c1
     try clear p2
     try clear c3
     try clear c4
     try clear c6
     try clear c10
     try clear p2
     obtain ⟨x8_2, x25_2, rfl, HA, HK2, HO_8, HO_23, HB⟩ := hrel
     cases gk with
     | zero => exact absurd HA.out (by simp [impl_HeardBy.l0])
     | succ k2 =>
      have H := HA.out
      clear HA
      simp only [impl_HeardBy.l0] at H
      by_cases c16 : x25_2 < (t130.length : Int)
      ·rw [if_pos c16] at H
       have c16b0 : decide (x25_2 < (t130.length : Int)) = true := decide_eq_true c16
       clear c16
       by_cases c17 : 0 ≤ x25_2
       ·rw [if_pos c17] at H
        have c17b0 : decide (0 ≤ x25_2) = true := decide_eq_true c17
        clear c17
        by_cases c18 : x25_2 < (t130.length : Int)
        ·rw [if_pos c18] at H
         have c18b0 : decide (x25_2 < (t130.length : Int)) = true := decide_eq_true c18
         clear c18
         by_cases c19 : (rd t130 x25_2) ≤ a2
         ·rw [if_pos c19] at H
          have c19b0 : decide ((rd t130 x25_2) ≤ a2) = true := decide_eq_true c19
          clear c19
          by_cases c20 : x8_2.length < 17592186044416
          ·rw [if_pos c20] at H
           have LMc20 := Aside0.mk c20
           clear c20
           obtain ⟨y134, hy134⟩ : ∃ y_ : List Int, y_ = (x8_2 ++ [x25_2]) := ⟨_, rfl⟩
           replace H : (impl_HeardBy.l0 k2 a2 y134 t130 (t130.length : Int) (wrap64 (x25_2 + 1))) = some (r1, r2) := by first | (rw [hy134]; with_reducible exact H) | (have H2_ := (Option.bind_some _ _).symm.trans H; rw [hy134]; with_reducible exact H2_) | (have H2_ := (Option.bind_some _ _).symm.trans H; with_reducible exact H2_) | with_reducible exact H | (rw [hy134]; exact H) | exact H
           have Ny134 := Aside0.mk hy134
           clear hy134
           have H' := Aside0.mk H
           clear H
           have p133 : 0 ≤ (x25_2 : Int) := of_decide_eq_true (by first | (with_reducible assumption) | assumption)
           have q133 : x25_2 < (t130.length : Int) := of_decide_eq_true (by first | (with_reducible assumption) | assumption)
           obtain ⟨ad133, e133, hx133_0⟩ := Kd.at_int (Kd.R_reads' HO_23.out).2.2 x25_2 p133 q133
           cases e133
           replace p133 := eq_true p133
           replace q133 := eq_true q133
           go_wp2_with (first | ((with_reducible refine gate_builtin (b := .append) (xs := #[.tmp 33, .tmp 35]) rfl ?_); at_builtin; refine Kd.R_append (Kd.int .i64) (w0 := w) w.heap.size rfl (.tmp 33) (.tmp 35) 23 3 (.int .i64 0) 8 rfl Tryz.underlying23 info3 rfl (by decide) (by omega) u8 x8_2 x25_2 [.int .i64 x25_2] (fun k_ => some k_ ≠ (.slice (some ad133) t130.length co15 : Value).ownBlock) (fun _ => False) rfl rfl ?aP (fun _ hk => hk.elim) ?aF ?aO ?aB ?aS ?aL ?_; (case aP => exact rfl); (case aB => exact bw); (case aF => exact (fun k_ hk => Kd.fresh' (Kd.R_lt (pr HO_23)) k_ hk)); (case aO => exact (pr HO_8)); (case aS => exact (below_size bw)); (case aL => have := LMc20.out; omega); intro v135 w21 ho hb hg hat; rw [← Ny134.out] at ho; have n0_ := Aside0.mk (Kd.R_after (ok := (fun _ => True)) (by (with_reducible repeat (first | apply Kd.R_alloc | apply Kd.R_drewN | apply Kd.R_drew)); exact Kd.R_mono HO_23.out (fun _ hk => ⟨trivial, hk⟩)) hg hat); have n1_ := Aside0.mk (hb); have n2_ := Aside0.mk (ho); clear HO_23; clear HB; clear HO_8; have HO_23 := n0_; have HB := n1_; have HO136 := n2_; clear n0_ n1_ n2_; clear ho hb hg hat))
           go_roundg k2
           case measure => have := HJ3.out; have := HK2.out; omega
           case rel => exact ⟨(y134), (wrap64 (x25_2 + 1)), (rs), H', ⟨by have := HJ3.out; have := HK2.out; omega⟩, ⟨pr HO136⟩, ⟨by (with_reducible repeat (first | apply Kd.R_alloc | apply Kd.R_drewN | apply Kd.R_drew)); exact Kd.R_mono HO_23.out (fun _ hk => hk.2)⟩, ⟨bw⟩⟩
          ·rw [if_neg c20] at H
           exact absurd H (by simp)
         ·rw [if_neg c19] at H
          have c19b0 : decide ((rd t130 x25_2) ≤ a2) = false := decide_eq_false c19
          clear c19
          have H' := Aside0.mk H
          clear H
          have p133 : 0 ≤ (x25_2 : Int) := of_decide_eq_true (by first | (with_reducible assumption) | assumption)
          have q133 : x25_2 < (t130.length : Int) := of_decide_eq_true (by first | (with_reducible assumption) | assumption)
          obtain ⟨ad133, e133, hx133_0⟩ := Kd.at_int (Kd.R_reads' HO_23.out).2.2 x25_2 p133 q133
          cases e133
          replace p133 := eq_true p133
          replace q133 := eq_true q133
          go_wp2
          go_roundg k2
          case measure => have := HJ3.out; have := HK2.out; omega
          case rel => exact ⟨(x8_2), (wrap64 (x25_2 + 1)), (rs), H', ⟨by have := HJ3.out; have := HK2.out; omega⟩, ⟨pr HO_8⟩, ⟨pr HO_23⟩, ⟨bw⟩⟩
        ·rw [if_neg c18] at H
         exact absurd H (by simp)
       ·rw [if_neg c17] at H
        exact absurd H (by simp)
      ·rw [if_neg c16] at H
       have c16b0 : decide (x25_2 < (t130.length : Int)) = false := decide_eq_false c16
       clear c16
       simp only [Option.some.injEq, Prod.mk.injEq] at H
       obtain ⟨rfl, rfl⟩ := H
       go_wp2
       go_ret2
       exact ⟨_, rs, by (with_reducible repeat (first | apply Kd.R_alloc | apply Kd.R_drewN | apply Kd.R_drew)); exact Kd.R_mono HO_8.out (fun _ hk => trivial), bw⟩

/-! ### spec_l1In: function 48 -/
def spec_l1In.f (a0 : Int) (a1 : Int) (a2 : Int) : Option (Bool) := if a0 ≥ a1 then (some (decide (a0 ≤ a2))) else (some false)
set_option maxHeartbeats 8000000 in
set_option maxRecDepth 100000 in
theorem spec_l1In.calls (a0 : Int) (a1 : Int) (a2 : Int) (r : Bool) (w : World) (h : spec_l1In.f a0 a1 a2 = some r) :
  Calls Tryz.prog 48 #[.int .i64 a0, .int .i64 a1, .int .i64 a2] w fun e w' => e = .returned (.bool r) ∧ Drawn0 w w' := by
 unfold spec_l1In.f at h
 have H := h
 clear h
 by_cases c4 : a0 ≥ a1
 ·rw [if_pos c4] at H
  have c4b0 : decide (a1 ≤ a0) = true := decide_eq_true c4
  clear c4
  obtain rfl := Option.some.inj H
  go_enter Tryz.func48, Tryz.ntmps48
  go_wp2
  go_ret
  exact ⟨rs, by repeat (first | exact Drawn0.refl _ | apply Drawn0.step)⟩
 ·rw [if_neg c4] at H
  have c4b0 : decide (a1 ≤ a0) = false := decide_eq_false c4
  clear c4
  obtain rfl := Option.some.inj H
  go_enter Tryz.func48, Tryz.ntmps48
  go_wp2
  go_ret
  exact ⟨rs, by repeat (first | exact Drawn0.refl _ | apply Drawn0.step)⟩

/-! ### spec_siSoldiers: function 33 -/
def spec_siSoldiers.f (a0 : Int) : Option (Bool) := (spec_l1In.f a0 1 100).bind fun t137 => (some t137)
set_option maxHeartbeats 8000000 in
set_option maxRecDepth 100000 in
theorem spec_siSoldiers.calls (a0 : Int) (r : Bool) (w : World) (h : spec_siSoldiers.f a0 = some r) :
  Calls Tryz.prog 33 #[.int .i64 a0] w fun e w' => e = .returned (.bool r) ∧ Drawn0 w w' := by
 unfold spec_siSoldiers.f at h
 have H := h
 clear h
 replace H := Option.bind_eq_some_iff.mp H
 obtain ⟨t137, A20, H⟩ := H
 (try dsimp only at H)
 have A2 := Aside0.mk A20
 clear A20
 obtain rfl := Option.some.inj H
 go_enter Tryz.func33, Tryz.ntmps33
 go_wp2_with (first | ((with_reducible refine gate_callee (f := 48) rfl ?_); refine gl (some 4) Tryz.func48 #[.int .i64 a0, .int .i64 1, .int .i64 100] ?_; (with_reducible refine (spec_l1In.calls a0 1 100 t137 _ A2.out).mono ?_); rintro e w' ⟨rfl, ⟨nd, rfl⟩⟩; refine ⟨_, rfl, ?_⟩))
 go_ret
 exact ⟨rs, by repeat (first | exact Drawn0.refl _ | apply Drawn0.step)⟩

/-! ### spec_siSignal: function 59 -/
def spec_siSignal.f (a0 : Int) (a1_0 : Int) (a1_1 : Bool) (a1_2 : Int) : Option (Bool) := (spec_siSoldiers.f a0).bind fun t139 => (if t139 = true then ((spec_l1In.f a1_0 0 (wrap64 (a0 - 1))).bind fun t140 => (if t140 = true then ((spec_l1In.f a1_2 1 10).bind fun t141 => (some t141)) else (some false))) else (some false))
set_option maxHeartbeats 8000000 in
set_option maxRecDepth 100000 in
theorem spec_siSignal.calls (a0 : Int) (a1_0 : Int) (a1_1 : Bool) (a1_2 : Int) (r : Bool) (w : World) (h : spec_siSignal.f a0 a1_0 a1_1 a1_2 = some r) :
  Calls Tryz.prog 59 #[.int .i64 a0, .agg #[.int .i64 a1_0, .bool a1_1, .int .i64 a1_2]] w fun e w' => e = .returned (.bool r) ∧ Below w.heap.size w w' := by
 have hu25 := Tryz.underlying25
 have HB := Aside0.mk (Below.refl w.heap.size w)
 unfold spec_siSignal.f at h
 have H := h
 clear h
 replace H := Option.bind_eq_some_iff.mp H
 obtain ⟨t139, A30, H⟩ := H
 (try dsimp only at H)
 have A3 := Aside0.mk A30
 clear A30
 by_cases c4 : t139 = true
 ·subst c4
  rw [if_pos rfl] at H
  replace H := Option.bind_eq_some_iff.mp H
  obtain ⟨t140, A50, H⟩ := H
  (try dsimp only at H)
  have A5 := Aside0.mk A50
  clear A50
  by_cases c6 : t140 = true
  ·subst c6
   rw [if_pos rfl] at H
   replace H := Option.bind_eq_some_iff.mp H
   obtain ⟨t141, A70, H⟩ := H
   (try dsimp only at H)
   have A7 := Aside0.mk A70
   clear A70
   obtain rfl := Option.some.inj H
   go_enter Tryz.func59, Tryz.ntmps59
   go_wp2_with (first | ((with_reducible refine gate_dst (N := 3) rfl ?_); refine bx 3 25 #[.int .i64 a1_0, .bool a1_1, .int .i64 a1_2] ?_; intro gb138 hg w8 hbox hb; have BK138 := hbox; have GW138 := gs hg; have GE138 := gs hg; replace HB := bs hb; clear hb hbox hg) | ((with_reducible refine gate_callee (f := 33) rfl ?_); refine gl (some 6) Tryz.func33 #[.int .i64 a0] ?_; (with_reducible refine (spec_siSoldiers.calls a0 true _ A3.out).mono ?_); rintro e w' ⟨rfl, ⟨nd, rfl⟩⟩; refine ⟨_, rfl, ?_⟩; have hcz9_0 := bc BK138 0 (.int .i64 a1_0); have hcz9_1 := bc BK138 1 (.bool a1_1); have hcz9_2 := bc BK138 2 (.int .i64 a1_2); have hfz9_0 := blk_frozen BK138.out 0; have hfz9_1 := blk_frozen BK138.out 1; have hfz9_2 := blk_frozen BK138.out 2) | (go_at_call 48; (with_reducible refine (spec_l1In.calls a1_0 0 (wrap64 (a0 - 1)) true _ A5.out).mono ?_); rintro e w' ⟨rfl, ⟨nd, rfl⟩⟩) | (go_at_call 48; (with_reducible refine (spec_l1In.calls a1_2 1 10 t141 _ A7.out).mono ?_); rintro e w' ⟨rfl, ⟨nd, rfl⟩⟩))
   go_ret
   exact ⟨rs, bw⟩
  ·replace c6 := Bool.eq_false_iff.mpr c6
   subst c6
   rw [if_neg (show ¬ (false = true) by decide)] at H
   obtain rfl := Option.some.inj H
   go_enter Tryz.func59, Tryz.ntmps59
   go_wp2_with (first | ((with_reducible refine gate_dst (N := 3) rfl ?_); refine bx 3 25 #[.int .i64 a1_0, .bool a1_1, .int .i64 a1_2] ?_; intro gb138 hg w10 hbox hb; have BK138 := hbox; have GW138 := gs hg; have GE138 := gs hg; replace HB := bs hb; clear hb hbox hg) | ((with_reducible refine gate_callee (f := 33) rfl ?_); refine gl (some 6) Tryz.func33 #[.int .i64 a0] ?_; (with_reducible refine (spec_siSoldiers.calls a0 true _ A3.out).mono ?_); rintro e w' ⟨rfl, ⟨nd, rfl⟩⟩; refine ⟨_, rfl, ?_⟩; have hcz11_0 := bc BK138 0 (.int .i64 a1_0); have hcz11_1 := bc BK138 1 (.bool a1_1); have hcz11_2 := bc BK138 2 (.int .i64 a1_2); have hfz11_0 := blk_frozen BK138.out 0; have hfz11_1 := blk_frozen BK138.out 1; have hfz11_2 := blk_frozen BK138.out 2) | (go_at_call 48; (with_reducible refine (spec_l1In.calls a1_0 0 (wrap64 (a0 - 1)) false _ A5.out).mono ?_); rintro e w' ⟨rfl, ⟨nd, rfl⟩⟩))
   go_ret
   exact ⟨rs, bw⟩
 ·replace c4 := Bool.eq_false_iff.mpr c4
  subst c4
  rw [if_neg (show ¬ (false = true) by decide)] at H
  obtain rfl := Option.some.inj H
  go_enter Tryz.func59, Tryz.ntmps59
  go_wp2_with (first | ((with_reducible refine gate_dst (N := 3) rfl ?_); refine bx 3 25 #[.int .i64 a1_0, .bool a1_1, .int .i64 a1_2] ?_; intro gb138 hg w12 hbox hb; have BK138 := hbox; have GW138 := gs hg; have GE138 := gs hg; replace HB := bs hb; clear hb hbox hg) | ((with_reducible refine gate_callee (f := 33) rfl ?_); refine gl (some 6) Tryz.func33 #[.int .i64 a0] ?_; (with_reducible refine (spec_siSoldiers.calls a0 false _ A3.out).mono ?_); rintro e w' ⟨rfl, ⟨nd, rfl⟩⟩; refine ⟨_, rfl, ?_⟩))
  go_ret
  exact ⟨rs, bw⟩

/-! ### spec_siList: function 34 -/
def spec_siList.l0 : Nat → Int → List (S25) → Int → Int → Option (Bool)
  | 0, _, _, _, _ => none
  | k + 1, x0, x11, x12, x13 => if x13 < x12 then (if 0 ≤ x13 then (if x13 < (x11.length : Int) then ((spec_siSignal.f x0 ((rd_T25 x11 x13).f0) ((rd_T25 x11 x13).f1) ((rd_T25 x11 x13).f2)).bind fun t145 => (if t145 = true then (spec_siList.l0 k x0 x11 x12 (wrap64 (x13 + 1))) else (some false))) else (none)) else (none)) else (some true)
def spec_siList.f (k : Nat) (a0 : Int) (l1 : List (S25)) : Option (Bool) := (spec_l1In.f (l1.length : Int) 1 10).bind fun t142 => (if t142 = true then (spec_siList.l0 k a0 l1 (l1.length : Int) 0) else (some false))
theorem spec_siList.mono_l : ∀ k, (∀ y0 y1 y2 y3, LeO (spec_siList.l0 k y0 y1 y2 y3) (spec_siList.l0 (k + 1) y0 y1 y2 y3))
  | 0 => fun _ _ _ _ r h => by simp [spec_siList.l0] at h
  | k + 1 => by
    have ih0 := spec_siList.mono_l k
    · intro y0 y1 y2 y3
      unfold spec_siList.l0
      repeat' first
      | (with_reducible exact ih0 _ _ _ _)
      | (with_reducible exact LeO.refl _)
      | (with_reducible exact LeO.none _)
      | (with_reducible refine LeO.ite ?_ ?_)
      | (with_reducible refine LeO.bind ?_ (fun _ => ?_))
      | exact ih0 _ _ _ _
      | exact LeO.none _
      | refine LeO.ite ?_ ?_
      | refine LeO.bind ?_ (fun _ => ?_)
theorem spec_siList.mono : ∀ a0 a1 k, LeO (spec_siList.f k a0 a1) (spec_siList.f (k + 1) a0 a1) := by
  intro a0 a1 k
  have ih0 := spec_siList.mono_l k
  unfold spec_siList.f
  repeat' first
      | (with_reducible exact ih0 _ _ _ _)
      | (with_reducible exact LeO.refl _)
      | (with_reducible exact LeO.none _)
      | (with_reducible refine LeO.ite ?_ ?_)
      | (with_reducible refine LeO.bind ?_ (fun _ => ?_))
      | exact ih0 _ _ _ _
      | exact LeO.none _
      | refine LeO.ite ?_ ?_
      | refine LeO.bind ?_ (fun _ => ?_)
set_option maxHeartbeats 8000000 in
set_option maxRecDepth 100000 in
theorem spec_siList.calls (k : Nat) (a0 : Int) (A1 : Option Addr) (c1 : Nat) (l1 : List (S25)) (r : Bool) (w : World) (hr1 : Kd.C k25 w A1 l1.length l1) (hc1 : l1.length ≤ c1) (h : spec_siList.f k a0 l1 = some r) :
  Calls Tryz.prog 34 #[.int .i64 a0, .slice A1 l1.length c1] w fun e w' => e = .returned (.bool r) ∧ Below w.heap.size w w' := by
 have hu25 := Tryz.underlying25
 have HR1 := Aside0.mk hr1
 have HC1 := Aside0.mk hc1
 clear hr1 hc1
 have HB := Aside0.mk (Below.refl w.heap.size w)
 unfold spec_siList.f at h
 have H := h
 clear h
 replace H := Option.bind_eq_some_iff.mp H
 obtain ⟨t142, A30, H⟩ := H
 (try dsimp only at H)
 have A3 := Aside0.mk A30
 clear A30
 by_cases c4 : t142 = true
 ·subst c4
  rw [if_pos rfl] at H
  have H' := Aside0.mk H
  clear H
  go_enter Tryz.func34, Tryz.ntmps34
  go_wp2_with (first | ((with_reducible refine gate_callee (f := 48) rfl ?_); refine gl (some 9) Tryz.func48 #[.int .i64 (l1.length : Int), .int .i64 1, .int .i64 10] ?_; (with_reducible refine (spec_l1In.calls (l1.length : Int) 1 10 true _ A3.out).mono ?_); rintro e w' ⟨rfl, ⟨nd, rfl⟩⟩; refine ⟨_, rfl, ?_⟩))
  go_loopg [13] k (fun kq v13 w' => ∃ (x13_1 : Int), v13 = .int .i64 x13_1 ∧ Aside0 (spec_siList.l0 kq a0 l1 (l1.length : Int) x13_1 = some r) ∧ Aside0 (kq ≤ k) ∧ Aside0 (Below w.heap.size w w'))
  case atStart => exact ⟨(0), (rs), H', ⟨Nat.le_refl _⟩, ⟨bw⟩⟩
  case round =>
   clear H'
   try clear c1
   try clear p2
   try clear c3
   try clear c4
   obtain ⟨x13_1, rfl, HA, HK1, HB⟩ := hrel
   cases gk with
   | zero => exact absurd HA.out (by simp [spec_siList.l0])
   | succ k1 =>
    have H := HA.out
    clear HA
    simp only [spec_siList.l0] at H
    by_cases c5 : x13_1 < (l1.length : Int)
    ·rw [if_pos c5] at H
     have c5b0 : decide (x13_1 < (l1.length : Int)) = true := decide_eq_true c5
     clear c5
     by_cases c6 : 0 ≤ x13_1
     ·rw [if_pos c6] at H
      have c6b0 : decide (0 ≤ x13_1) = true := decide_eq_true c6
      clear c6
      by_cases c7 : x13_1 < (l1.length : Int)
      ·rw [if_pos c7] at H
       have c7b0 : decide (x13_1 < (l1.length : Int)) = true := decide_eq_true c7
       clear c7
       replace H := Option.bind_eq_some_iff.mp H
       obtain ⟨t145, A80, H⟩ := H
       (try dsimp only at H)
       have A8 := Aside0.mk A80
       clear A80
       by_cases c9 : t145 = true
       ·subst c9
        rw [if_pos rfl] at H
        have H' := Aside0.mk H
        clear H
        have p143 : 0 ≤ (x13_1 : Int) := of_decide_eq_true (by first | (with_reducible assumption) | assumption)
        have q143 : x13_1 < (l1.length : Int) := of_decide_eq_true (by first | (with_reducible assumption) | assumption)
        obtain ⟨ad143, e143, hx143_0, hx143_1, hx143_2⟩ := at_T25 HR1.out x13_1 p143 q143
        cases e143
        replace hx143_0 := (HB.out.cell (World.block_lt_of_cell? w _ hx143_0)).trans hx143_0
        replace hx143_1 := (HB.out.cell (World.block_lt_of_cell? w _ hx143_1)).trans hx143_1
        replace hx143_2 := (HB.out.cell (World.block_lt_of_cell? w _ hx143_2)).trans hx143_2
        replace p143 := eq_true p143
        replace q143 := eq_true q143
        go_wp2_with (first | ((with_reducible refine gate_dst (N := 6) rfl ?_); refine bx 6 25 #[.int .i64 0, .bool false, .int .i64 0] ?_; intro gb144 hg w10 hbox hb; have BK144 := hbox; have GW144 := gs hg; have GE144 := gs hg; replace HB := bs hb; clear hb hbox hg; have hcz11_0 := bc BK144 0 (.int .i64 0); have hcz11_1 := bc BK144 1 (.bool false); have hcz11_2 := bc BK144 2 (.int .i64 0); have hfz11_0 := blk_frozen BK144.out 0; have hfz11_1 := blk_frozen BK144.out 1; have hfz11_2 := blk_frozen BK144.out 2) | ((with_reducible refine gate_callee (f := 59) rfl ?_); refine gl (some 19) Tryz.func59 #[.int .i64 a0, .agg #[.int .i64 ((rd_T25 l1 x13_1).f0), .bool ((rd_T25 l1 x13_1).f1), .int .i64 ((rd_T25 l1 x13_1).f2)]] ?_; (with_reducible refine (spec_siSignal.calls a0 ((rd_T25 l1 x13_1).f0) ((rd_T25 l1 x13_1).f1) ((rd_T25 l1 x13_1).f2) true _ A8.out).mono ?_); rintro e w12 ⟨rfl, hb⟩; refine ⟨_, rfl, ?_⟩; replace BK144 := Aside0.mk (blk_below (g := gb144) (o := .cells #[.int .i64 ((rd_T25 l1 x13_1).f0), .bool ((rd_T25 l1 x13_1).f1), .int .i64 ((rd_T25 l1 x13_1).f2)] 25 (0, 0)) (by (with_reducible repeat (first | refine blk_drewN ?_ _ | refine blk_drew ?_ | refine blk_alloc ?_ _)); refine blk_put (cs := #[.int .i64 ((rd_T25 l1 x13_1).f0), .bool ((rd_T25 l1 x13_1).f1), .int .i64 0]) ?_ 2 _ rfl; (with_reducible repeat (first | refine blk_drewN ?_ _ | refine blk_drew ?_ | refine blk_alloc ?_ _)); refine blk_put (cs := #[.int .i64 ((rd_T25 l1 x13_1).f0), .bool false, .int .i64 0]) ?_ 1 _ rfl; (with_reducible repeat (first | refine blk_drewN ?_ _ | refine blk_drew ?_ | refine blk_alloc ?_ _)); refine blk_put (cs := #[.int .i64 0, .bool false, .int .i64 0]) ?_ 0 _ rfl; (with_reducible repeat (first | refine blk_drewN ?_ _ | refine blk_drew ?_ | refine blk_alloc ?_ _)); exact BK144.out) hb); replace HB := bs hb; (try clear hb)))
        go_roundg k1
        case measure => have := HK1.out; omega
        case rel => exact ⟨(wrap64 (x13_1 + 1)), (rs), H', ⟨by have := HK1.out; omega⟩, ⟨bw⟩⟩
       ·replace c9 := Bool.eq_false_iff.mpr c9
        subst c9
        rw [if_neg (show ¬ (false = true) by decide)] at H
        obtain rfl := Option.some.inj H
        have p143 : 0 ≤ (x13_1 : Int) := of_decide_eq_true (by first | (with_reducible assumption) | assumption)
        have q143 : x13_1 < (l1.length : Int) := of_decide_eq_true (by first | (with_reducible assumption) | assumption)
        obtain ⟨ad143, e143, hx143_0, hx143_1, hx143_2⟩ := at_T25 HR1.out x13_1 p143 q143
        cases e143
        replace hx143_0 := (HB.out.cell (World.block_lt_of_cell? w _ hx143_0)).trans hx143_0
        replace hx143_1 := (HB.out.cell (World.block_lt_of_cell? w _ hx143_1)).trans hx143_1
        replace hx143_2 := (HB.out.cell (World.block_lt_of_cell? w _ hx143_2)).trans hx143_2
        replace p143 := eq_true p143
        replace q143 := eq_true q143
        go_wp2_with (first | ((with_reducible refine gate_dst (N := 6) rfl ?_); refine bx 6 25 #[.int .i64 0, .bool false, .int .i64 0] ?_; intro gb144 hg w13 hbox hb; have BK144 := hbox; have GW144 := gs hg; have GE144 := gs hg; replace HB := bs hb; clear hb hbox hg; have hcz14_0 := bc BK144 0 (.int .i64 0); have hcz14_1 := bc BK144 1 (.bool false); have hcz14_2 := bc BK144 2 (.int .i64 0); have hfz14_0 := blk_frozen BK144.out 0; have hfz14_1 := blk_frozen BK144.out 1; have hfz14_2 := blk_frozen BK144.out 2) | ((with_reducible refine gate_callee (f := 59) rfl ?_); refine gl (some 19) Tryz.func59 #[.int .i64 a0, .agg #[.int .i64 ((rd_T25 l1 x13_1).f0), .bool ((rd_T25 l1 x13_1).f1), .int .i64 ((rd_T25 l1 x13_1).f2)]] ?_; (with_reducible refine (spec_siSignal.calls a0 ((rd_T25 l1 x13_1).f0) ((rd_T25 l1 x13_1).f1) ((rd_T25 l1 x13_1).f2) false _ A8.out).mono ?_); rintro e w15 ⟨rfl, hb⟩; refine ⟨_, rfl, ?_⟩; replace BK144 := Aside0.mk (blk_below (g := gb144) (o := .cells #[.int .i64 ((rd_T25 l1 x13_1).f0), .bool ((rd_T25 l1 x13_1).f1), .int .i64 ((rd_T25 l1 x13_1).f2)] 25 (0, 0)) (by (with_reducible repeat (first | refine blk_drewN ?_ _ | refine blk_drew ?_ | refine blk_alloc ?_ _)); refine blk_put (cs := #[.int .i64 ((rd_T25 l1 x13_1).f0), .bool ((rd_T25 l1 x13_1).f1), .int .i64 0]) ?_ 2 _ rfl; (with_reducible repeat (first | refine blk_drewN ?_ _ | refine blk_drew ?_ | refine blk_alloc ?_ _)); refine blk_put (cs := #[.int .i64 ((rd_T25 l1 x13_1).f0), .bool false, .int .i64 0]) ?_ 1 _ rfl; (with_reducible repeat (first | refine blk_drewN ?_ _ | refine blk_drew ?_ | refine blk_alloc ?_ _)); refine blk_put (cs := #[.int .i64 0, .bool false, .int .i64 0]) ?_ 0 _ rfl; (with_reducible repeat (first | refine blk_drewN ?_ _ | refine blk_drew ?_ | refine blk_alloc ?_ _)); exact BK144.out) hb); replace HB := bs hb; (try clear hb)))
        go_ret
        exact ⟨rs, bw⟩
      ·rw [if_neg c7] at H
       exact absurd H (by simp)
     ·rw [if_neg c6] at H
      exact absurd H (by simp)
    ·rw [if_neg c5] at H
     have c5b0 : decide (x13_1 < (l1.length : Int)) = false := decide_eq_false c5
     clear c5
     obtain rfl := Option.some.inj H
     go_wp2
     go_ret
     exact ⟨rs, bw⟩
 ·replace c4 := Bool.eq_false_iff.mpr c4
  subst c4
  rw [if_neg (show ¬ (false = true) by decide)] at H
  obtain rfl := Option.some.inj H
  go_enter Tryz.func34, Tryz.ntmps34
  go_wp2_with (first | ((with_reducible refine gate_callee (f := 48) rfl ?_); refine gl (some 9) Tryz.func48 #[.int .i64 (l1.length : Int), .int .i64 1, .int .i64 10] ?_; (with_reducible refine (spec_l1In.calls (l1.length : Int) 1 10 false _ A3.out).mono ?_); rintro e w' ⟨rfl, ⟨nd, rfl⟩⟩; refine ⟨_, rfl, ?_⟩))
  go_ret
  exact ⟨rs, bw⟩

/-! ### spec_siTime: function 35 -/
def spec_siTime.f (a0 : Int) : Option (Bool) := (spec_l1In.f a0 0 100000).bind fun t146 => (some t146)
set_option maxHeartbeats 8000000 in
set_option maxRecDepth 100000 in
theorem spec_siTime.calls (a0 : Int) (r : Bool) (w : World) (h : spec_siTime.f a0 = some r) :
  Calls Tryz.prog 35 #[.int .i64 a0] w fun e w' => e = .returned (.bool r) ∧ Drawn0 w w' := by
 unfold spec_siTime.f at h
 have H := h
 clear h
 replace H := Option.bind_eq_some_iff.mp H
 obtain ⟨t146, A20, H⟩ := H
 (try dsimp only at H)
 have A2 := Aside0.mk A20
 clear A20
 obtain rfl := Option.some.inj H
 go_enter Tryz.func35, Tryz.ntmps35
 go_wp2_with (first | ((with_reducible refine gate_callee (f := 48) rfl ?_); refine gl (some 4) Tryz.func48 #[.int .i64 a0, .int .i64 0, .int .i64 100000] ?_; (with_reducible refine (spec_l1In.calls a0 0 100000 t146 _ A2.out).mono ?_); rintro e w' ⟨rfl, ⟨nd, rfl⟩⟩; refine ⟨_, rfl, ?_⟩))
 go_ret
 exact ⟨rs, by repeat (first | exact Drawn0.refl _ | apply Drawn0.step)⟩

/-! ### spec_l1Least: function 38 -/
def spec_l1Least.f (a0 : Int) (a1 : Int) : Option (Int) := if a0 < a1 then (some a0) else (some a1)
set_option maxHeartbeats 8000000 in
set_option maxRecDepth 100000 in
theorem spec_l1Least.calls (a0 : Int) (a1 : Int) (r : Int) (w : World) (h : spec_l1Least.f a0 a1 = some r) :
  Calls Tryz.prog 38 #[.int .i64 a0, .int .i64 a1] w fun e w' => e = .returned (.int .i64 r) ∧ Drawn0 w w' := by
 unfold spec_l1Least.f at h
 have H := h
 clear h
 by_cases c3 : a0 < a1
 ·rw [if_pos c3] at H
  have c3b0 : decide (a0 < a1) = true := decide_eq_true c3
  clear c3
  obtain rfl := Option.some.inj H
  go_enter Tryz.func38, Tryz.ntmps38
  go_wp2
  go_ret
  exact ⟨rs, by repeat (first | exact Drawn0.refl _ | apply Drawn0.step)⟩
 ·rw [if_neg c3] at H
  have c3b0 : decide (a0 < a1) = false := decide_eq_false c3
  clear c3
  obtain rfl := Option.some.inj H
  go_enter Tryz.func38, Tryz.ntmps38
  go_wp2
  go_ret
  exact ⟨rs, by repeat (first | exact Drawn0.refl _ | apply Drawn0.step)⟩

/-! ### spec_siFirst: function 36 -/
def spec_siFirst.f (a0 : Int) (a1_0 : Int) (a1_1 : Bool) (a1_2 : Int) (a2 : Int) : Option (Int) := if a0 = 1 then (some 0) else (if a1_1 = true then (if (wrap64 (2 * (wrap64 (a0 - 1)))) = 0 then (none) else ((spec_l1Least.f (Int.tmod (wrap64 ((wrap64 (a2 - (wrap64 ((wrap64 (2 * (wrap64 (a0 - 1)))) - a1_0)))) + (wrap64 (2 * (wrap64 (2 * (wrap64 (a0 - 1)))))))) (wrap64 (2 * (wrap64 (a0 - 1))))) (Int.tmod (wrap64 ((wrap64 ((wrap64 ((wrap64 (2 * (wrap64 (a0 - 1)))) - a2)) - (wrap64 ((wrap64 (2 * (wrap64 (a0 - 1)))) - a1_0)))) + (wrap64 (2 * (wrap64 (2 * (wrap64 (a0 - 1)))))))) (wrap64 (2 * (wrap64 (a0 - 1)))))).bind fun t148 => (some (wrap64 (t148 * a1_2))))) else (if (wrap64 (2 * (wrap64 (a0 - 1)))) = 0 then (none) else ((spec_l1Least.f (Int.tmod (wrap64 ((wrap64 (a2 - a1_0)) + (wrap64 (2 * (wrap64 (2 * (wrap64 (a0 - 1)))))))) (wrap64 (2 * (wrap64 (a0 - 1))))) (Int.tmod (wrap64 ((wrap64 ((wrap64 ((wrap64 (2 * (wrap64 (a0 - 1)))) - a2)) - a1_0)) + (wrap64 (2 * (wrap64 (2 * (wrap64 (a0 - 1)))))))) (wrap64 (2 * (wrap64 (a0 - 1)))))).bind fun t149 => (some (wrap64 (t149 * a1_2))))))
set_option maxHeartbeats 8000000 in
set_option maxRecDepth 100000 in
theorem spec_siFirst.calls (a0 : Int) (a1_0 : Int) (a1_1 : Bool) (a1_2 : Int) (a2 : Int) (r : Int) (w : World) (h : spec_siFirst.f a0 a1_0 a1_1 a1_2 a2 = some r) :
  Calls Tryz.prog 36 #[.int .i64 a0, .agg #[.int .i64 a1_0, .bool a1_1, .int .i64 a1_2], .int .i64 a2] w fun e w' => e = .returned (.int .i64 r) ∧ Below w.heap.size w w' := by
 have hu25 := Tryz.underlying25
 have HB := Aside0.mk (Below.refl w.heap.size w)
 unfold spec_siFirst.f at h
 have H := h
 clear h
 by_cases c4 : a0 = 1
 ·rw [if_pos c4] at H
  have c4b0 : (a0 == 1) = true := beq_iff_eq.mpr c4
  have c4b1 : (a0 != 1) = false := bne_eq_false_iff_eq.mpr c4
  clear c4
  obtain rfl := Option.some.inj H
  go_enter Tryz.func36, Tryz.ntmps36
  go_wp2_with (first | ((with_reducible refine gate_dst (N := 4) rfl ?_); refine bx 4 25 #[.int .i64 a1_0, .bool a1_1, .int .i64 a1_2] ?_; intro gb147 hg w5 hbox hb; have BK147 := hbox; have GW147 := gs hg; have GE147 := gs hg; replace HB := bs hb; clear hb hbox hg))
  repeat (go_quiet (first | ((with_reducible refine gate_dst (N := 4) rfl ?_); refine bx 4 25 #[.int .i64 a1_0, .bool a1_1, .int .i64 a1_2] ?_; intro gb147 hg w5 hbox hb; have BK147 := hbox; have GW147 := gs hg; have GE147 := gs hg; replace HB := bs hb; clear hb hbox hg)); try go_wp2_with (first | ((with_reducible refine gate_dst (N := 4) rfl ?_); refine bx 4 25 #[.int .i64 a1_0, .bool a1_1, .int .i64 a1_2] ?_; intro gb147 hg w5 hbox hb; have BK147 := hbox; have GW147 := gs hg; have GE147 := gs hg; replace HB := bs hb; clear hb hbox hg)))
  go_ret
  exact ⟨rs, bw⟩
 ·rw [if_neg c4] at H
  have c4b0 : (a0 == 1) = false := beq_eq_false_iff_ne.mpr c4
  have c4b1 : (a0 != 1) = true := bne_iff_ne.mpr c4
  by_cases c6 : a1_1 = true
  ·subst c6
   rw [if_pos rfl] at H
   by_cases c7 : (wrap64 (2 * (wrap64 (a0 - 1)))) = 0
   ·rw [if_pos c7] at H
    exact absurd H (by simp)
   ·rw [if_neg c7] at H
    have c7b0 : ((wrap64 (2 * (wrap64 (a0 - 1)))) == 0) = false := beq_eq_false_iff_ne.mpr c7
    have c7b1 : ((wrap64 (2 * (wrap64 (a0 - 1)))) != 0) = true := bne_iff_ne.mpr c7
    replace H := Option.bind_eq_some_iff.mp H
    obtain ⟨t148, A80, H⟩ := H
    (try dsimp only at H)
    have A8 := Aside0.mk A80
    clear A80
    obtain rfl := Option.some.inj H
    go_enter Tryz.func36, Tryz.ntmps36
    go_wp2_with (first | ((with_reducible refine gate_dst (N := 4) rfl ?_); refine bx 4 25 #[.int .i64 a1_0, .bool true, .int .i64 a1_2] ?_; intro gb147 hg w9 hbox hb; have BK147 := hbox; have GW147 := gs hg; have GE147 := gs hg; replace HB := bs hb; clear hb hbox hg; have hcz10_0 := bc BK147 0 (.int .i64 a1_0); have hcz10_1 := bc BK147 1 (.bool true); have hcz10_2 := bc BK147 2 (.int .i64 a1_2); have hfz10_0 := blk_frozen BK147.out 0; have hfz10_1 := blk_frozen BK147.out 1; have hfz10_2 := blk_frozen BK147.out 2) | (go_at_call 38; (with_reducible refine (spec_l1Least.calls (Int.tmod (wrap64 ((wrap64 (a2 - (wrap64 ((wrap64 (2 * (wrap64 (a0 - 1)))) - a1_0)))) + (wrap64 (2 * (wrap64 (2 * (wrap64 (a0 - 1)))))))) (wrap64 (2 * (wrap64 (a0 - 1))))) (Int.tmod (wrap64 ((wrap64 ((wrap64 ((wrap64 (2 * (wrap64 (a0 - 1)))) - a2)) - (wrap64 ((wrap64 (2 * (wrap64 (a0 - 1)))) - a1_0)))) + (wrap64 (2 * (wrap64 (2 * (wrap64 (a0 - 1)))))))) (wrap64 (2 * (wrap64 (a0 - 1))))) t148 _ A8.out).mono ?_); rintro e w' ⟨rfl, ⟨nd, rfl⟩⟩; (try first | exact ⟨rfl, _, World.drewN_drewN _ _ _⟩ | exact ⟨rfl, _, Eq.trans (World.drewN_drewN _ _ _) (congrArg (World.drewN _) (Nat.add_assoc _ _ _))⟩)))
    repeat (go_quiet (first | ((with_reducible refine gate_dst (N := 4) rfl ?_); refine bx 4 25 #[.int .i64 a1_0, .bool true, .int .i64 a1_2] ?_; intro gb147 hg w9 hbox hb; have BK147 := hbox; have GW147 := gs hg; have GE147 := gs hg; replace HB := bs hb; clear hb hbox hg; have hcz10_0 := bc BK147 0 (.int .i64 a1_0); have hcz10_1 := bc BK147 1 (.bool true); have hcz10_2 := bc BK147 2 (.int .i64 a1_2); have hfz10_0 := blk_frozen BK147.out 0; have hfz10_1 := blk_frozen BK147.out 1; have hfz10_2 := blk_frozen BK147.out 2) | (go_at_call 38; (with_reducible refine (spec_l1Least.calls (Int.tmod (wrap64 ((wrap64 (a2 - (wrap64 ((wrap64 (2 * (wrap64 (a0 - 1)))) - a1_0)))) + (wrap64 (2 * (wrap64 (2 * (wrap64 (a0 - 1)))))))) (wrap64 (2 * (wrap64 (a0 - 1))))) (Int.tmod (wrap64 ((wrap64 ((wrap64 ((wrap64 (2 * (wrap64 (a0 - 1)))) - a2)) - (wrap64 ((wrap64 (2 * (wrap64 (a0 - 1)))) - a1_0)))) + (wrap64 (2 * (wrap64 (2 * (wrap64 (a0 - 1)))))))) (wrap64 (2 * (wrap64 (a0 - 1))))) t148 _ A8.out).mono ?_); rintro e w' ⟨rfl, ⟨nd, rfl⟩⟩; (try first | exact ⟨rfl, _, World.drewN_drewN _ _ _⟩ | exact ⟨rfl, _, Eq.trans (World.drewN_drewN _ _ _) (congrArg (World.drewN _) (Nat.add_assoc _ _ _))⟩))); try go_wp2_with (first | ((with_reducible refine gate_dst (N := 4) rfl ?_); refine bx 4 25 #[.int .i64 a1_0, .bool true, .int .i64 a1_2] ?_; intro gb147 hg w9 hbox hb; have BK147 := hbox; have GW147 := gs hg; have GE147 := gs hg; replace HB := bs hb; clear hb hbox hg; have hcz10_0 := bc BK147 0 (.int .i64 a1_0); have hcz10_1 := bc BK147 1 (.bool true); have hcz10_2 := bc BK147 2 (.int .i64 a1_2); have hfz10_0 := blk_frozen BK147.out 0; have hfz10_1 := blk_frozen BK147.out 1; have hfz10_2 := blk_frozen BK147.out 2) | (go_at_call 38; (with_reducible refine (spec_l1Least.calls (Int.tmod (wrap64 ((wrap64 (a2 - (wrap64 ((wrap64 (2 * (wrap64 (a0 - 1)))) - a1_0)))) + (wrap64 (2 * (wrap64 (2 * (wrap64 (a0 - 1)))))))) (wrap64 (2 * (wrap64 (a0 - 1))))) (Int.tmod (wrap64 ((wrap64 ((wrap64 ((wrap64 (2 * (wrap64 (a0 - 1)))) - a2)) - (wrap64 ((wrap64 (2 * (wrap64 (a0 - 1)))) - a1_0)))) + (wrap64 (2 * (wrap64 (2 * (wrap64 (a0 - 1)))))))) (wrap64 (2 * (wrap64 (a0 - 1))))) t148 _ A8.out).mono ?_); rintro e w' ⟨rfl, ⟨nd, rfl⟩⟩; (try first | exact ⟨rfl, _, World.drewN_drewN _ _ _⟩ | exact ⟨rfl, _, Eq.trans (World.drewN_drewN _ _ _) (congrArg (World.drewN _) (Nat.add_assoc _ _ _))⟩))))
    go_ret
    exact ⟨rs, bw⟩
  ·replace c6 := Bool.eq_false_iff.mpr c6
   subst c6
   rw [if_neg (show ¬ (false = true) by decide)] at H
   by_cases c11 : (wrap64 (2 * (wrap64 (a0 - 1)))) = 0
   ·rw [if_pos c11] at H
    exact absurd H (by simp)
   ·rw [if_neg c11] at H
    have c11b0 : ((wrap64 (2 * (wrap64 (a0 - 1)))) == 0) = false := beq_eq_false_iff_ne.mpr c11
    have c11b1 : ((wrap64 (2 * (wrap64 (a0 - 1)))) != 0) = true := bne_iff_ne.mpr c11
    replace H := Option.bind_eq_some_iff.mp H
    obtain ⟨t149, A120, H⟩ := H
    (try dsimp only at H)
    have A12 := Aside0.mk A120
    clear A120
    obtain rfl := Option.some.inj H
    go_enter Tryz.func36, Tryz.ntmps36
    go_wp2_with (first | ((with_reducible refine gate_dst (N := 4) rfl ?_); refine bx 4 25 #[.int .i64 a1_0, .bool false, .int .i64 a1_2] ?_; intro gb147 hg w13 hbox hb; have BK147 := hbox; have GW147 := gs hg; have GE147 := gs hg; replace HB := bs hb; clear hb hbox hg; have hcz14_0 := bc BK147 0 (.int .i64 a1_0); have hcz14_1 := bc BK147 1 (.bool false); have hcz14_2 := bc BK147 2 (.int .i64 a1_2); have hfz14_0 := blk_frozen BK147.out 0; have hfz14_1 := blk_frozen BK147.out 1; have hfz14_2 := blk_frozen BK147.out 2) | (go_at_call 38; (with_reducible refine (spec_l1Least.calls (Int.tmod (wrap64 ((wrap64 (a2 - a1_0)) + (wrap64 (2 * (wrap64 (2 * (wrap64 (a0 - 1)))))))) (wrap64 (2 * (wrap64 (a0 - 1))))) (Int.tmod (wrap64 ((wrap64 ((wrap64 ((wrap64 (2 * (wrap64 (a0 - 1)))) - a2)) - a1_0)) + (wrap64 (2 * (wrap64 (2 * (wrap64 (a0 - 1)))))))) (wrap64 (2 * (wrap64 (a0 - 1))))) t149 _ A12.out).mono ?_); rintro e w' ⟨rfl, ⟨nd, rfl⟩⟩; (try first | exact ⟨rfl, _, World.drewN_drewN _ _ _⟩ | exact ⟨rfl, _, Eq.trans (World.drewN_drewN _ _ _) (congrArg (World.drewN _) (Nat.add_assoc _ _ _))⟩)))
    repeat (go_quiet (first | ((with_reducible refine gate_dst (N := 4) rfl ?_); refine bx 4 25 #[.int .i64 a1_0, .bool false, .int .i64 a1_2] ?_; intro gb147 hg w13 hbox hb; have BK147 := hbox; have GW147 := gs hg; have GE147 := gs hg; replace HB := bs hb; clear hb hbox hg; have hcz14_0 := bc BK147 0 (.int .i64 a1_0); have hcz14_1 := bc BK147 1 (.bool false); have hcz14_2 := bc BK147 2 (.int .i64 a1_2); have hfz14_0 := blk_frozen BK147.out 0; have hfz14_1 := blk_frozen BK147.out 1; have hfz14_2 := blk_frozen BK147.out 2) | (go_at_call 38; (with_reducible refine (spec_l1Least.calls (Int.tmod (wrap64 ((wrap64 (a2 - a1_0)) + (wrap64 (2 * (wrap64 (2 * (wrap64 (a0 - 1)))))))) (wrap64 (2 * (wrap64 (a0 - 1))))) (Int.tmod (wrap64 ((wrap64 ((wrap64 ((wrap64 (2 * (wrap64 (a0 - 1)))) - a2)) - a1_0)) + (wrap64 (2 * (wrap64 (2 * (wrap64 (a0 - 1)))))))) (wrap64 (2 * (wrap64 (a0 - 1))))) t149 _ A12.out).mono ?_); rintro e w' ⟨rfl, ⟨nd, rfl⟩⟩; (try first | exact ⟨rfl, _, World.drewN_drewN _ _ _⟩ | exact ⟨rfl, _, Eq.trans (World.drewN_drewN _ _ _) (congrArg (World.drewN _) (Nat.add_assoc _ _ _))⟩))); try go_wp2_with (first | ((with_reducible refine gate_dst (N := 4) rfl ?_); refine bx 4 25 #[.int .i64 a1_0, .bool false, .int .i64 a1_2] ?_; intro gb147 hg w13 hbox hb; have BK147 := hbox; have GW147 := gs hg; have GE147 := gs hg; replace HB := bs hb; clear hb hbox hg; have hcz14_0 := bc BK147 0 (.int .i64 a1_0); have hcz14_1 := bc BK147 1 (.bool false); have hcz14_2 := bc BK147 2 (.int .i64 a1_2); have hfz14_0 := blk_frozen BK147.out 0; have hfz14_1 := blk_frozen BK147.out 1; have hfz14_2 := blk_frozen BK147.out 2) | (go_at_call 38; (with_reducible refine (spec_l1Least.calls (Int.tmod (wrap64 ((wrap64 (a2 - a1_0)) + (wrap64 (2 * (wrap64 (2 * (wrap64 (a0 - 1)))))))) (wrap64 (2 * (wrap64 (a0 - 1))))) (Int.tmod (wrap64 ((wrap64 ((wrap64 ((wrap64 (2 * (wrap64 (a0 - 1)))) - a2)) - a1_0)) + (wrap64 (2 * (wrap64 (2 * (wrap64 (a0 - 1)))))))) (wrap64 (2 * (wrap64 (a0 - 1))))) t149 _ A12.out).mono ?_); rintro e w' ⟨rfl, ⟨nd, rfl⟩⟩; (try first | exact ⟨rfl, _, World.drewN_drewN _ _ _⟩ | exact ⟨rfl, _, Eq.trans (World.drewN_drewN _ _ _) (congrArg (World.drewN _) (Nat.add_assoc _ _ _))⟩))))
    go_ret
    exact ⟨rs, bw⟩

end Go.Proofs.YtefihklpegcmpaaGreatDoor.PFnSignalsReachOfAll
