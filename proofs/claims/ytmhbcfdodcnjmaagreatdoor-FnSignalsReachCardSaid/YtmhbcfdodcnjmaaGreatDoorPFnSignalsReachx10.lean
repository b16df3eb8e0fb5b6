-- Laid by xprint, a program of this session that runs over the kit's print.
import Derived.Test.YtmhbcfdodcnjmaaGreatDoorPFnSignalsReachx0
import Derived.Test.YtmhbcfdodcnjmaaGreatDoorPFnSignalsReachx3
import Derived.Test.YtmhbcfdodcnjmaaGreatDoorPFnSignalsReachx9
namespace Go.Proofs.YtmhbcfdodcnjmaaGreatDoor.PFnSignalsReach
open Go.RowKit Go.Proofs.YtmhbcfdodcnjmaaGreatDoorW.PrintWords Go.Proofs.YtmhbcfdodcnjmaaGreatDoorW.PrintLast Go.Proofs.YtmhbcfdodcnjmaaGreatDoorW.PrintMore Go.Proofs.YtmhbcfdodcnjmaaGreatDoor.Sq
attribute [local go_sem] max2_int min2_int max_two min_two max_three min_three max_four min_four   -- for this text's walks alone
set_option linter.unusedVariables false
set_option linter.unusedSimpArgs false

/-! ### impl_meet: function 88 -/
def impl_meet.f (a0 : Int) (a1_0 : Int) (a1_1 : Bool) (a1_2 : Int) (a2_0 : Int) (a2_1 : Bool) (a2_2 : Int) (a3 : Int) : Option (Bool) := (impl_Signal_place.f a1_0 a1_1 a1_2 a0 a3).bind fun t458 => ((impl_Signal_place.f a2_0 a2_1 a2_2 a0 a3).bind fun t459 => (if t458 = t459 then ((impl_Signal_comes.f a1_0 a1_1 a1_2 a0 a3).bind fun t460 => (if t460 = true then (some true) else ((impl_Signal_comes.f a2_0 a2_1 a2_2 a0 a3).bind fun t461 => (some t461)))) else (some false)))
def impl_meet.T1 : Bool × List (List Nat × List Nat) := (true, [([], []), ([], []), ([], []), ([0, 1, 2], [0, 1, 2]), ([], []), ([], []), ([], []), ([4, 5, 6, 3], [4, 5, 6]), ([3, 7], [3, 7]), ([8, 7], [8]), ([9], [9]), ([9], [9]), ([9], [9]), ([10, 11, 12, 9, 9], [9, 10, 11, 12]), ([13, 13, 9], [9, 13]), ([14], [14]), ([14], [14]), ([14], [14]), ([15, 16, 17, 14, 14], [14, 15, 16, 17]), ([14, 18, 9], [9, 14, 18]), ([9, 19], [9, 19]), ([20, 18, 0, 1, 2, 3, 4, 5, 6, 7, 8, 9, 10, 11, 12, 13, 14, 15, 16, 17, 18, 19, 20], [20])])
def impl_meet.B1 : List Nat := [0, 0, 0, 7, 0, 0, 0, 127, 255, 511, 1023, 1023, 1023, 8191, 16383, 32767, 32767, 32767, 262143, 524287, 1048575, 2097151]
theorem impl_meet.tab1 : rtab .any (opsOf Tryz.f88 1) = impl_meet.T1 := by kernel_rfl
theorem impl_meet.bits1 : waitsOk impl_meet.T1.2 impl_meet.B1 = true := by kernel_rfl
set_option maxHeartbeats 8000000 in
set_option maxRecDepth 100000 in
theorem impl_meet.calls (a0 : Int) (a1_0 : Int) (a1_1 : Bool) (a1_2 : Int) (a2_0 : Int) (a2_1 : Bool) (a2_2 : Int) (a3 : Int) (r : Bool) (w : World) (h : impl_meet.f a0 a1_0 a1_1 a1_2 a2_0 a2_1 a2_2 a3 = some r) :
  Calls Tryz.prog 88 #[.int .i64 a0, .agg #[.int .i64 a1_0, .bool a1_1, .int .i64 a1_2], .agg #[.int .i64 a2_0, .bool a2_1, .int .i64 a2_2], .int .i64 a3] w fun e w' => e = .returned (.bool r) ∧ Below w.heap.size w w' := by
 have hu36 := Tryz.underlying36
 have HB := Aside0.mk (Below.refl w.heap.size w)
 unfold impl_meet.f at h
 have H := h
 clear h
 replace H := Option.bind_eq_some_iff.mp H
 obtain ⟨t458, A50, H⟩ := H
 (try dsimp only at H)
 have A5 := Aside0.mk A50
 clear A50
 replace H := Option.bind_eq_some_iff.mp H
 obtain ⟨t459, A60, H⟩ := H
 (try dsimp only at H)
 have A6 := Aside0.mk A60
 clear A60
 by_cases c7 : t458 = t459
 ·rw [if_pos c7] at H
  have c7b0 : (t458 == t459) = true := beq_iff_eq.mpr c7
  have c7b1 : (t458 != t459) = false := bne_eq_false_iff_eq.mpr c7
  clear c7
  replace H := Option.bind_eq_some_iff.mp H
  obtain ⟨t460, A80, H⟩ := H
  (try dsimp only at H)
  have A8 := Aside0.mk A80
  clear A80
  by_cases c9 : t460 = true
  ·subst c9
   rw [if_pos rfl] at H
   obtain rfl := Option.some.inj H
   go_enter Tryz.func88, Tryz.ntmps88
   try go_wp2_with (first | ((with_reducible refine gate_dst (N := 5) rfl ?_); refine bx 5 36 #[.int .i64 a1_0, .bool a1_1, .int .i64 a1_2] ?_; intro gb456 hg w10 hbox hb; have BK456 := hbox; have GW456 := gs hg; have GE456 := gs hg; replace HB := bs hb; clear hb hbox hg) | ((with_reducible refine gate_dst (N := 6) rfl ?_); refine bx 6 36 #[.int .i64 a2_0, .bool a2_1, .int .i64 a2_2] ?_; intro gb457 hg w11 hbox hb; have BK457 := hbox; have GW457 := gs hg; have GE457 := gs hg; replace HB := bs hb; have NB456_457 := nl BK456 hg; have NB457_456 := ng BK456 hg; replace BK456 := nk BK456 hb; clear hb hbox hg))
   replace BK456 := Aside0.mk (blk_drew BK456.out)
   replace BK457 := Aside0.mk (blk_drew BK457.out)
   replace HB := Aside0.mk (below_drew1 HB.out)
   refine start_ (n := 22) (S := fun w' => w'.cell? ⟨gb456, 0, none⟩ = some (.int .i64 a1_0) ∧ w'.cell? ⟨gb456, 1, none⟩ = some (.bool a1_1) ∧ w'.cell? ⟨gb456, 2, none⟩ = some (.int .i64 a1_2) ∧ w'.cell? ⟨gb457, 0, none⟩ = some (.int .i64 a2_0) ∧ w'.cell? ⟨gb457, 1, none⟩ = some (.bool a2_1) ∧ w'.cell? ⟨gb457, 2, none⟩ = some (.int .i64 a2_2)) (ds := []) (tb 22 0) (by kernel_rfl) rfl rfl ⟨ec BK456, ec BK456, ec BK456, ec BK457, ec BK457, ec BK457⟩ (fun hHeld => ?_); refine with_tabW impl_meet.tab1 impl_meet.bits1 (fun HT_ HW_ => ?_)
   generalize w11.drew = w12 at BK456 BK457 HB hHeld ⊢
   refine pu 1 (some 10) (tb 22 2) ?_
   refine pu 2 (some 11) (tb 22 6) ?_
   refine pu 5 (some 14) (tb 22 38) ?_
   refine pu 6 (some 15) (tb 22 102) ?_
   refine take_ (i := 0) (N := some 9) (v := ?_) (a' := ?_) (tb 22 103) rfl rfl (take_ofW HT_.out HW_.out (by kernel_rfl)) (fun _ _ _ h => h) (Or.inl ⟨by rfl, ?_⟩) hHeld ?_ ?_
   rotate_left
   ·rintro w' ⟨s0, s1, s2, s3, s4, s5⟩
    go_simp
    with_reducible rfl
   rotate_left
   ·simp only [Act.put, List.setIfInBounds_toArray, List.set_cons_zero, List.set_cons_succ, i64_w, i32_w]
    rfl
   refine take_ (i := 4) (N := some 13) (v := ?_) (a' := ?_) (tb 22 119) rfl rfl (take_ofW HT_.out HW_.out (by kernel_rfl)) (fun _ _ _ h => h) (Or.inl ⟨by rfl, ?_⟩) hHeld ?_ ?_
   rotate_left
   ·rintro w' ⟨s0, s1, s2, s3, s4, s5⟩
    go_simp
    with_reducible rfl
   rotate_left
   ·simp only [Act.put, List.setIfInBounds_toArray, List.set_cons_zero, List.set_cons_succ, i64_w, i32_w]
    rfl
   refine one_ (i := 3) (N := some 12) (tb 22 127) rfl rfl (one_of HT_.out (by kernel_rfl)) (by decide) (fun K hK => ?_)
   refine goes_ Tryz.func67 (by kernel_rfl) rfl #[.agg #[.int .i64 a1_0, .bool a1_1, .int .i64 a1_2], .int .i64 a0, .int .i64 a3] (by rfl) rfl rfl (by (try simp only [List.map_toArray, List.map_cons, List.map_nil]); first | done | rfl | (simp only [List.length_drop, List.length_take]; rfl)) ?_
   with_reducible refine (impl_Signal_place.calls a1_0 a1_1 a1_2 a0 a3 t458 _ A5.out).mono ?_
   rintro e w13 ⟨rfl, hb⟩
   refine ⟨_, rfl, ?_⟩
   replace BK456 := nk BK456 hb
   replace BK457 := nk BK457 hb
   replace HB := bs hb
   (try clear hb)
   refine hK.out _ _ ⟨ec BK456, ec BK456, ec BK456, ec BK457, ec BK457, ec BK457⟩ (fun hHeld => ?_)
   clear hK K
   refine nm (some 12) ?_
   refine one_ (i := 7) (N := some 16) (tb 22 255) rfl rfl (one_of HT_.out (by kernel_rfl)) (by decide) (fun K hK => ?_)
   refine goes_ Tryz.func67 (by kernel_rfl) rfl #[.agg #[.int .i64 a2_0, .bool a2_1, .int .i64 a2_2], .int .i64 a0, .int .i64 a3] (by rfl) rfl rfl (by (try simp only [List.map_toArray, List.map_cons, List.map_nil]); first | done | rfl | (simp only [List.length_drop, List.length_take]; rfl)) ?_
   with_reducible refine (impl_Signal_place.calls a2_0 a2_1 a2_2 a0 a3 t459 _ A6.out).mono ?_
   rintro e w14 ⟨rfl, hb⟩
   refine ⟨_, rfl, ?_⟩
   replace BK456 := nk BK456 hb
   replace BK457 := nk BK457 hb
   replace HB := bs hb
   (try clear hb)
   refine hK.out _ _ ⟨ec BK456, ec BK456, ec BK456, ec BK457, ec BK457, ec BK457⟩ (fun hHeld => ?_)
   clear hK K
   refine nm (some 16) ?_
   refine pu 8 (some 17) (tb 22 511) ?_
   refine pu 9 (some 18) (tb 22 1023) ?_
   refine pu 11 (some 20) (tb 22 3071) ?_
   refine pu 12 (some 21) (tb 22 7167) ?_
   refine take_ (i := 10) (N := some 19) (v := ?_) (a' := ?_) (tb 22 8191) rfl rfl (take_ofW HT_.out HW_.out (by kernel_rfl)) (fun _ _ _ h => h) (Or.inl ⟨by rfl, ?_⟩) hHeld ?_ ?_
   rotate_left
   ·rintro w' ⟨s0, s1, s2, s3, s4, s5⟩
    go_simp
    with_reducible rfl
   rotate_left
   ·simp only [Act.put, List.setIfInBounds_toArray, List.set_cons_zero, List.set_cons_succ, i64_w, i32_w]
    rfl
   refine one_ (i := 13) (N := some 22) (tb 22 16383) rfl rfl (one_of HT_.out (by kernel_rfl)) (by decide) (fun K hK => ?_)
   refine goes_ Tryz.func101 (by kernel_rfl) rfl #[.agg #[.int .i64 a1_0, .bool a1_1, .int .i64 a1_2], .int .i64 a0, .int .i64 a3] (by rfl) rfl rfl (by (try simp only [List.map_toArray, List.map_cons, List.map_nil]); first | done | rfl | (simp only [List.length_drop, List.length_take]; rfl)) ?_
   with_reducible refine (impl_Signal_comes.calls a1_0 a1_1 a1_2 a0 a3 true _ A8.out).mono ?_
   rintro e w15 ⟨rfl, hb⟩
   refine ⟨_, rfl, ?_⟩
   replace BK456 := nk BK456 hb
   replace BK457 := nk BK457 hb
   replace HB := bs hb
   (try clear hb)
   refine hK.out _ _ ⟨ec BK456, ec BK456, ec BK456, ec BK457, ec BK457, ec BK457⟩ (fun hHeld => ?_)
   clear hK K
   refine nm (some 22) ?_
   refine pu 14 (some 23) (tb 22 32767) ?_
   refine pure_ (i := 15) (N := some 24) (v := undef) (a' := ?_) (tb 22 65535) rfl rfl (any_of HT_.out (by kernel_rfl)) (fun _ _ _ h => h) (Or.inr ⟨by rfl, rfl⟩) ?_ ?_
   rotate_left
   ·simp only [Act.put, List.setIfInBounds_toArray, List.set_cons_zero, List.set_cons_succ, i64_w, i32_w]
    rfl
   refine pure_ (i := 16) (N := some 25) (v := undef) (a' := ?_) (tb 22 131071) rfl rfl (any_of HT_.out (by kernel_rfl)) (fun _ _ _ h => h) (Or.inr ⟨by rfl, rfl⟩) ?_ ?_
   rotate_left
   ·simp only [Act.put, List.setIfInBounds_toArray, List.set_cons_zero, List.set_cons_succ, i64_w, i32_w]
    rfl
   refine pure_ (i := 17) (N := some 26) (v := undef) (a' := ?_) (tb 22 262143) rfl rfl (any_of HT_.out (by kernel_rfl)) (fun _ _ _ h => h) (Or.inr ⟨by rfl, rfl⟩) ?_ ?_
   rotate_left
   ·simp only [Act.put, List.setIfInBounds_toArray, List.set_cons_zero, List.set_cons_succ, i64_w, i32_w]
    rfl
   refine pure_ (i := 18) (N := some 27) (v := undef) (a' := ?_) (tb 22 524287) rfl rfl (any_of HT_.out (by kernel_rfl)) (fun _ _ _ h => h) (Or.inr ⟨by rfl, rfl⟩) ?_ ?_
   rotate_left
   ·simp only [Act.put, List.setIfInBounds_toArray, List.set_cons_zero, List.set_cons_succ, i64_w, i32_w]
    rfl
   refine pu 19 (some 28) (tb 22 1048575) ?_
   refine pu 20 (some 29) (tb 22 2097151) ?_
   refine pu 21 (some 8) (tb 22 4194303) ?_
   refine done_ (done_of HT_.out (by kernel_rfl)) ?_
   try go_wp2
   go_ret
   exact ⟨rs, bw⟩
  ·replace c9 := Bool.eq_false_iff.mpr c9
   subst c9
   rw [if_neg (show ¬ (false = true) by decide)] at H
   replace H := Option.bind_eq_some_iff.mp H
   obtain ⟨t461, A160, H⟩ := H
   (try dsimp only at H)
   have A16 := Aside0.mk A160
   clear A160
   obtain rfl := Option.some.inj H
   go_enter Tryz.func88, Tryz.ntmps88
   try go_wp2_with (first | ((with_reducible refine gate_dst (N := 5) rfl ?_); refine bx 5 36 #[.int .i64 a1_0, .bool a1_1, .int .i64 a1_2] ?_; intro gb456 hg w17 hbox hb; have BK456 := hbox; have GW456 := gs hg; have GE456 := gs hg; replace HB := bs hb; clear hb hbox hg) | ((with_reducible refine gate_dst (N := 6) rfl ?_); refine bx 6 36 #[.int .i64 a2_0, .bool a2_1, .int .i64 a2_2] ?_; intro gb457 hg w18 hbox hb; have BK457 := hbox; have GW457 := gs hg; have GE457 := gs hg; replace HB := bs hb; have NB456_457 := nl BK456 hg; have NB457_456 := ng BK456 hg; replace BK456 := nk BK456 hb; clear hb hbox hg))
   replace BK456 := Aside0.mk (blk_drew BK456.out)
   replace BK457 := Aside0.mk (blk_drew BK457.out)
   replace HB := Aside0.mk (below_drew1 HB.out)
   refine start_ (n := 22) (S := fun w' => w'.cell? ⟨gb456, 0, none⟩ = some (.int .i64 a1_0) ∧ w'.cell? ⟨gb456, 1, none⟩ = some (.bool a1_1) ∧ w'.cell? ⟨gb456, 2, none⟩ = some (.int .i64 a1_2) ∧ w'.cell? ⟨gb457, 0, none⟩ = some (.int .i64 a2_0) ∧ w'.cell? ⟨gb457, 1, none⟩ = some (.bool a2_1) ∧ w'.cell? ⟨gb457, 2, none⟩ = some (.int .i64 a2_2)) (ds := []) (tb 22 0) (by kernel_rfl) rfl rfl ⟨ec BK456, ec BK456, ec BK456, ec BK457, ec BK457, ec BK457⟩ (fun hHeld => ?_); refine with_tabW impl_meet.tab1 impl_meet.bits1 (fun HT_ HW_ => ?_)
   generalize w18.drew = w19 at BK456 BK457 HB hHeld ⊢
   refine pu 1 (some 10) (tb 22 2) ?_
   refine pu 2 (some 11) (tb 22 6) ?_
   refine pu 5 (some 14) (tb 22 38) ?_
   refine pu 6 (some 15) (tb 22 102) ?_
   refine take_ (i := 0) (N := some 9) (v := ?_) (a' := ?_) (tb 22 103) rfl rfl (take_ofW HT_.out HW_.out (by kernel_rfl)) (fun _ _ _ h => h) (Or.inl ⟨by rfl, ?_⟩) hHeld ?_ ?_
   rotate_left
   ·rintro w' ⟨s0, s1, s2, s3, s4, s5⟩
    go_simp
    with_reducible rfl
   rotate_left
   ·simp only [Act.put, List.setIfInBounds_toArray, List.set_cons_zero, List.set_cons_succ, i64_w, i32_w]
    rfl
   refine take_ (i := 4) (N := some 13) (v := ?_) (a' := ?_) (tb 22 119) rfl rfl (take_ofW HT_.out HW_.out (by kernel_rfl)) (fun _ _ _ h => h) (Or.inl ⟨by rfl, ?_⟩) hHeld ?_ ?_
   rotate_left
   ·rintro w' ⟨s0, s1, s2, s3, s4, s5⟩
    go_simp
    with_reducible rfl
   rotate_left
   ·simp only [Act.put, List.setIfInBounds_toArray, List.set_cons_zero, List.set_cons_succ, i64_w, i32_w]
    rfl
   refine one_ (i := 3) (N := some 12) (tb 22 127) rfl rfl (one_of HT_.out (by kernel_rfl)) (by decide) (fun K hK => ?_)
   refine goes_ Tryz.func67 (by kernel_rfl) rfl #[.agg #[.int .i64 a1_0, .bool a1_1, .int .i64 a1_2], .int .i64 a0, .int .i64 a3] (by rfl) rfl rfl (by (try simp only [List.map_toArray, List.map_cons, List.map_nil]); first | done | rfl | (simp only [List.length_drop, List.length_take]; rfl)) ?_
   with_reducible refine (impl_Signal_place.calls a1_0 a1_1 a1_2 a0 a3 t458 _ A5.out).mono ?_
   rintro e w20 ⟨rfl, hb⟩
   refine ⟨_, rfl, ?_⟩
   replace BK456 := nk BK456 hb
   replace BK457 := nk BK457 hb
   replace HB := bs hb
   (try clear hb)
   refine hK.out _ _ ⟨ec BK456, ec BK456, ec BK456, ec BK457, ec BK457, ec BK457⟩ (fun hHeld => ?_)
   clear hK K
   refine nm (some 12) ?_
   refine one_ (i := 7) (N := some 16) (tb 22 255) rfl rfl (one_of HT_.out (by kernel_rfl)) (by decide) (fun K hK => ?_)
   refine goes_ Tryz.func67 (by kernel_rfl) rfl #[.agg #[.int .i64 a2_0, .bool a2_1, .int .i64 a2_2], .int .i64 a0, .int .i64 a3] (by rfl) rfl rfl (by (try simp only [List.map_toArray, List.map_cons, List.map_nil]); first | done | rfl | (simp only [List.length_drop, List.length_take]; rfl)) ?_
   with_reducible refine (impl_Signal_place.calls a2_0 a2_1 a2_2 a0 a3 t459 _ A6.out).mono ?_
   rintro e w21 ⟨rfl, hb⟩
   refine ⟨_, rfl, ?_⟩
   replace BK456 := nk BK456 hb
   replace BK457 := nk BK457 hb
   replace HB := bs hb
   (try clear hb)
   refine hK.out _ _ ⟨ec BK456, ec BK456, ec BK456, ec BK457, ec BK457, ec BK457⟩ (fun hHeld => ?_)
   clear hK K
   refine nm (some 16) ?_
   refine pu 8 (some 17) (tb 22 511) ?_
   refine pu 9 (some 18) (tb 22 1023) ?_
   refine pu 11 (some 20) (tb 22 3071) ?_
   refine pu 12 (some 21) (tb 22 7167) ?_
   refine take_ (i := 10) (N := some 19) (v := ?_) (a' := ?_) (tb 22 8191) rfl rfl (take_ofW HT_.out HW_.out (by kernel_rfl)) (fun _ _ _ h => h) (Or.inl ⟨by rfl, ?_⟩) hHeld ?_ ?_
   rotate_left
   ·rintro w' ⟨s0, s1, s2, s3, s4, s5⟩
    go_simp
    with_reducible rfl
   rotate_left
   ·simp only [Act.put, List.setIfInBounds_toArray, List.set_cons_zero, List.set_cons_succ, i64_w, i32_w]
    rfl
   refine one_ (i := 13) (N := some 22) (tb 22 16383) rfl rfl (one_of HT_.out (by kernel_rfl)) (by decide) (fun K hK => ?_)
   refine goes_ Tryz.func101 (by kernel_rfl) rfl #[.agg #[.int .i64 a1_0, .bool a1_1, .int .i64 a1_2], .int .i64 a0, .int .i64 a3] (by rfl) rfl rfl (by (try simp only [List.map_toArray, List.map_cons, List.map_nil]); first | done | rfl | (simp only [List.length_drop, List.length_take]; rfl)) ?_
   with_reducible refine (impl_Signal_comes.calls a1_0 a1_1 a1_2 a0 a3 false _ A8.out).mono ?_
   rintro e w22 ⟨rfl, hb⟩
   refine ⟨_, rfl, ?_⟩
   replace BK456 := nk BK456 hb
   replace BK457 := nk BK457 hb
   replace HB := bs hb
   (try clear hb)
   refine hK.out _ _ ⟨ec BK456, ec BK456, ec BK456, ec BK457, ec BK457, ec BK457⟩ (fun hHeld => ?_)
   clear hK K
   refine nm (some 22) ?_
   refine pu 14 (some 23) (tb 22 32767) ?_
   refine pu 16 (some 25) (tb 22 98303) ?_
   refine pu 17 (some 26) (tb 22 229375) ?_
   refine take_ (i := 15) (N := some 24) (v := ?_) (a' := ?_) (tb 22 262143) rfl rfl (take_ofW HT_.out HW_.out (by kernel_rfl)) (fun _ _ _ h => h) (Or.inl ⟨by rfl, ?_⟩) hHeld ?_ ?_
   rotate_left
   ·rintro w' ⟨s0, s1, s2, s3, s4, s5⟩
    go_simp
    with_reducible rfl
   rotate_left
   ·simp only [Act.put, List.setIfInBounds_toArray, List.set_cons_zero, List.set_cons_succ, i64_w, i32_w]
    rfl
   refine one_ (i := 18) (N := some 27) (tb 22 524287) rfl rfl (one_of HT_.out (by kernel_rfl)) (by decide) (fun K hK => ?_)
   refine goes_ Tryz.func101 (by kernel_rfl) rfl #[.agg #[.int .i64 a2_0, .bool a2_1, .int .i64 a2_2], .int .i64 a0, .int .i64 a3] (by rfl) rfl rfl (by (try simp only [List.map_toArray, List.map_cons, List.map_nil]); first | done | rfl | (simp only [List.length_drop, List.length_take]; rfl)) ?_
   with_reducible refine (impl_Signal_comes.calls a2_0 a2_1 a2_2 a0 a3 t461 _ A16.out).mono ?_
   rintro e w23 ⟨rfl, hb⟩
   refine ⟨_, rfl, ?_⟩
   replace BK456 := nk BK456 hb
   replace BK457 := nk BK457 hb
   replace HB := bs hb
   (try clear hb)
   refine hK.out _ _ ⟨ec BK456, ec BK456, ec BK456, ec BK457, ec BK457, ec BK457⟩ (fun hHeld => ?_)
   clear hK K
   refine nm (some 27) ?_
   refine pu 19 (some 28) (tb 22 1048575) ?_
   refine pu 20 (some 29) (tb 22 2097151) ?_
   refine pu 21 (some 8) (tb 22 4194303) ?_
   refine done_ (done_of HT_.out (by kernel_rfl)) ?_
   try go_wp2
   go_ret
   exact ⟨rs, bw⟩
 ·rw [if_neg c7] at H
  have c7b0 : (t458 == t459) = false := beq_eq_false_iff_ne.mpr c7
  have c7b1 : (t458 != t459) = true := bne_iff_ne.mpr c7
  obtain rfl := Option.some.inj H
  go_enter Tryz.func88, Tryz.ntmps88
  try go_wp2_with (first | ((with_reducible refine gate_dst (N := 5) rfl ?_); refine bx 5 36 #[.int .i64 a1_0, .bool a1_1, .int .i64 a1_2] ?_; intro gb456 hg w24 hbox hb; have BK456 := hbox; have GW456 := gs hg; have GE456 := gs hg; replace HB := bs hb; clear hb hbox hg) | ((with_reducible refine gate_dst (N := 6) rfl ?_); refine bx 6 36 #[.int .i64 a2_0, .bool a2_1, .int .i64 a2_2] ?_; intro gb457 hg w25 hbox hb; have BK457 := hbox; have GW457 := gs hg; have GE457 := gs hg; replace HB := bs hb; have NB456_457 := nl BK456 hg; have NB457_456 := ng BK456 hg; replace BK456 := nk BK456 hb; clear hb hbox hg))
  replace BK456 := Aside0.mk (blk_drew BK456.out)
  replace BK457 := Aside0.mk (blk_drew BK457.out)
  replace HB := Aside0.mk (below_drew1 HB.out)
  refine start_ (n := 22) (S := fun w' => w'.cell? ⟨gb456, 0, none⟩ = some (.int .i64 a1_0) ∧ w'.cell? ⟨gb456, 1, none⟩ = some (.bool a1_1) ∧ w'.cell? ⟨gb456, 2, none⟩ = some (.int .i64 a1_2) ∧ w'.cell? ⟨gb457, 0, none⟩ = some (.int .i64 a2_0) ∧ w'.cell? ⟨gb457, 1, none⟩ = some (.bool a2_1) ∧ w'.cell? ⟨gb457, 2, none⟩ = some (.int .i64 a2_2)) (ds := []) (tb 22 0) (by kernel_rfl) rfl rfl ⟨ec BK456, ec BK456, ec BK456, ec BK457, ec BK457, ec BK457⟩ (fun hHeld => ?_); refine with_tabW impl_meet.tab1 impl_meet.bits1 (fun HT_ HW_ => ?_)
  generalize w25.drew = w26 at BK456 BK457 HB hHeld ⊢
  refine pu 1 (some 10) (tb 22 2) ?_
  refine pu 2 (some 11) (tb 22 6) ?_
  refine pu 5 (some 14) (tb 22 38) ?_
  refine pu 6 (some 15) (tb 22 102) ?_
  refine take_ (i := 0) (N := some 9) (v := ?_) (a' := ?_) (tb 22 103) rfl rfl (take_ofW HT_.out HW_.out (by kernel_rfl)) (fun _ _ _ h => h) (Or.inl ⟨by rfl, ?_⟩) hHeld ?_ ?_
  rotate_left
  ·rintro w' ⟨s0, s1, s2, s3, s4, s5⟩
   go_simp
   with_reducible rfl
  rotate_left
  ·simp only [Act.put, List.setIfInBounds_toArray, List.set_cons_zero, List.set_cons_succ, i64_w, i32_w]
   rfl
  refine take_ (i := 4) (N := some 13) (v := ?_) (a' := ?_) (tb 22 119) rfl rfl (take_ofW HT_.out HW_.out (by kernel_rfl)) (fun _ _ _ h => h) (Or.inl ⟨by rfl, ?_⟩) hHeld ?_ ?_
  rotate_left
  ·rintro w' ⟨s0, s1, s2, s3, s4, s5⟩
   go_simp
   with_reducible rfl
  rotate_left
  ·simp only [Act.put, List.setIfInBounds_toArray, List.set_cons_zero, List.set_cons_succ, i64_w, i32_w]
   rfl
  refine one_ (i := 3) (N := some 12) (tb 22 127) rfl rfl (one_of HT_.out (by kernel_rfl)) (by decide) (fun K hK => ?_)
  refine goes_ Tryz.func67 (by kernel_rfl) rfl #[.agg #[.int .i64 a1_0, .bool a1_1, .int .i64 a1_2], .int .i64 a0, .int .i64 a3] (by rfl) rfl rfl (by (try simp only [List.map_toArray, List.map_cons, List.map_nil]); first | done | rfl | (simp only [List.length_drop, List.length_take]; rfl)) ?_
  with_reducible refine (impl_Signal_place.calls a1_0 a1_1 a1_2 a0 a3 t458 _ A5.out).mono ?_
  rintro e w27 ⟨rfl, hb⟩
  refine ⟨_, rfl, ?_⟩
  replace BK456 := nk BK456 hb
  replace BK457 := nk BK457 hb
  replace HB := bs hb
  (try clear hb)
  refine hK.out _ _ ⟨ec BK456, ec BK456, ec BK456, ec BK457, ec BK457, ec BK457⟩ (fun hHeld => ?_)
  clear hK K
  refine nm (some 12) ?_
  refine one_ (i := 7) (N := some 16) (tb 22 255) rfl rfl (one_of HT_.out (by kernel_rfl)) (by decide) (fun K hK => ?_)
  refine goes_ Tryz.func67 (by kernel_rfl) rfl #[.agg #[.int .i64 a2_0, .bool a2_1, .int .i64 a2_2], .int .i64 a0, .int .i64 a3] (by rfl) rfl rfl (by (try simp only [List.map_toArray, List.map_cons, List.map_nil]); first | done | rfl | (simp only [List.length_drop, List.length_take]; rfl)) ?_
  with_reducible refine (impl_Signal_place.calls a2_0 a2_1 a2_2 a0 a3 t459 _ A6.out).mono ?_
  rintro e w28 ⟨rfl, hb⟩
  refine ⟨_, rfl, ?_⟩
  replace BK456 := nk BK456 hb
  replace BK457 := nk BK457 hb
  replace HB := bs hb
  (try clear hb)
  refine hK.out _ _ ⟨ec BK456, ec BK456, ec BK456, ec BK457, ec BK457, ec BK457⟩ (fun hHeld => ?_)
  clear hK K
  refine nm (some 16) ?_
  refine pu 8 (some 17) (tb 22 511) ?_
  refine pu 9 (some 18) (tb 22 1023) ?_
  refine pure_ (i := 10) (N := some 19) (v := undef) (a' := ?_) (tb 22 2047) rfl rfl (any_of HT_.out (by kernel_rfl)) (fun _ _ _ h => h) (Or.inr ⟨by rfl, rfl⟩) ?_ ?_
  rotate_left
  ·simp only [Act.put, List.setIfInBounds_toArray, List.set_cons_zero, List.set_cons_succ, i64_w, i32_w]
   rfl
  refine pure_ (i := 11) (N := some 20) (v := undef) (a' := ?_) (tb 22 4095) rfl rfl (any_of HT_.out (by kernel_rfl)) (fun _ _ _ h => h) (Or.inr ⟨by rfl, rfl⟩) ?_ ?_
  rotate_left
  ·simp only [Act.put, List.setIfInBounds_toArray, List.set_cons_zero, List.set_cons_succ, i64_w, i32_w]
   rfl
  refine pure_ (i := 12) (N := some 21) (v := undef) (a' := ?_) (tb 22 8191) rfl rfl (any_of HT_.out (by kernel_rfl)) (fun _ _ _ h => h) (Or.inr ⟨by rfl, rfl⟩) ?_ ?_
  rotate_left
  ·simp only [Act.put, List.setIfInBounds_toArray, List.set_cons_zero, List.set_cons_succ, i64_w, i32_w]
   rfl
  refine pure_ (i := 13) (N := some 22) (v := undef) (a' := ?_) (tb 22 16383) rfl rfl (any_of HT_.out (by kernel_rfl)) (fun _ _ _ h => h) (Or.inr ⟨by rfl, rfl⟩) ?_ ?_
  rotate_left
  ·simp only [Act.put, List.setIfInBounds_toArray, List.set_cons_zero, List.set_cons_succ, i64_w, i32_w]
   rfl
  refine pure_ (i := 14) (N := some 23) (v := undef) (a' := ?_) (tb 22 32767) rfl rfl (any_of HT_.out (by kernel_rfl)) (fun _ _ _ h => h) (Or.inr ⟨by rfl, rfl⟩) ?_ ?_
  rotate_left
  ·simp only [Act.put, List.setIfInBounds_toArray, List.set_cons_zero, List.set_cons_succ, i64_w, i32_w]
   rfl
  refine pure_ (i := 15) (N := some 24) (v := undef) (a' := ?_) (tb 22 65535) rfl rfl (any_of HT_.out (by kernel_rfl)) (fun _ _ _ h => h) (Or.inr ⟨by rfl, rfl⟩) ?_ ?_
  rotate_left
  ·simp only [Act.put, List.setIfInBounds_toArray, List.set_cons_zero, List.set_cons_succ, i64_w, i32_w]
   rfl
  refine pure_ (i := 16) (N := some 25) (v := undef) (a' := ?_) (tb 22 131071) rfl rfl (any_of HT_.out (by kernel_rfl)) (fun _ _ _ h => h) (Or.inr ⟨by rfl, rfl⟩) ?_ ?_
  rotate_left
  ·simp only [Act.put, List.setIfInBounds_toArray, List.set_cons_zero, List.set_cons_succ, i64_w, i32_w]
   rfl
  refine pure_ (i := 17) (N := some 26) (v := undef) (a' := ?_) (tb 22 262143) rfl rfl (any_of HT_.out (by kernel_rfl)) (fun _ _ _ h => h) (Or.inr ⟨by rfl, rfl⟩) ?_ ?_
  rotate_left
  ·simp only [Act.put, List.setIfInBounds_toArray, List.set_cons_zero, List.set_cons_succ, i64_w, i32_w]
   rfl
  refine pure_ (i := 18) (N := some 27) (v := undef) (a' := ?_) (tb 22 524287) rfl rfl (any_of HT_.out (by kernel_rfl)) (fun _ _ _ h => h) (Or.inr ⟨by rfl, rfl⟩) ?_ ?_
  rotate_left
  ·simp only [Act.put, List.setIfInBounds_toArray, List.set_cons_zero, List.set_cons_succ, i64_w, i32_w]
   rfl
  refine pure_ (i := 19) (N := some 28) (v := undef) (a' := ?_) (tb 22 1048575) rfl rfl (any_of HT_.out (by kernel_rfl)) (fun _ _ _ h => h) (Or.inr ⟨by rfl, rfl⟩) ?_ ?_
  rotate_left
  ·simp only [Act.put, List.setIfInBounds_toArray, List.set_cons_zero, List.set_cons_succ, i64_w, i32_w]
   rfl
  refine pu 20 (some 29) (tb 22 2097151) ?_
  refine pu 21 (some 8) (tb 22 4194303) ?_
  refine done_ (done_of HT_.out (by kernel_rfl)) ?_
  try go_wp2
  go_ret
  exact ⟨rs, bw⟩

/-! ### impl_firstMeeting: function 66 -/
def impl_firstMeeting.l0 : Nat → Int → Int → Int → Bool → Int → Int → Bool → Int → Option (Int)
  | 0, _, _, _, _, _, _, _, _ => none
  | k + 1, x0, x9, x463000, x463001, x463002, x464000, x464001, x464002 => if x9 ≤ 100000 then ((impl_meet.f x0 x463000 x463001 x463002 x464000 x464001 x464002 x9).bind fun t464 => (if t464 = true then (some x9) else (impl_firstMeeting.l0 k x0 (wrap64 (x9 + 1)) x463000 x463001 x463002 x464000 x464001 x464002))) else (some (-1))
def impl_firstMeeting.f (k : Nat) (a0 : Int) (a1_0 : Int) (a1_1 : Bool) (a1_2 : Int) (a2_0 : Int) (a2_1 : Bool) (a2_2 : Int) (a3 : Int) : Option (Int) := impl_firstMeeting.l0 k a0 a3 a1_0 a1_1 a1_2 a2_0 a2_1 a2_2
theorem impl_firstMeeting.mono_l : ∀ k, (∀ y0 y1 y2 y3 y4 y5 y6 y7, LeO (impl_firstMeeting.l0 k y0 y1 y2 y3 y4 y5 y6 y7) (impl_firstMeeting.l0 (k + 1) y0 y1 y2 y3 y4 y5 y6 y7))
  | 0 => fun _ _ _ _ _ _ _ _ r h => by simp [impl_firstMeeting.l0] at h
  | k + 1 => by
    have ih0 := impl_firstMeeting.mono_l k
    · intro y0 y1 y2 y3 y4 y5 y6 y7
      unfold impl_firstMeeting.l0
      repeat' first
      | (with_reducible exact ih0 _ _ _ _ _ _ _ _)
      | (with_reducible exact LeO.refl _)
      | (with_reducible exact LeO.none _)
      | (with_reducible refine LeO.ite ?_ ?_)
      | (with_reducible refine LeO.bind ?_ (fun _ => ?_))
      | exact ih0 _ _ _ _ _ _ _ _
      | exact LeO.none _
      | refine LeO.ite ?_ ?_
      | refine LeO.bind ?_ (fun _ => ?_)
theorem impl_firstMeeting.mono : ∀ a0 a1 a2 a3 a4 a5 a6 a7 k, LeO (impl_firstMeeting.f k a0 a1 a2 a3 a4 a5 a6 a7) (impl_firstMeeting.f (k + 1) a0 a1 a2 a3 a4 a5 a6 a7) := by
  intro a0 a1 a2 a3 a4 a5 a6 a7 k
  have ih0 := impl_firstMeeting.mono_l k
  unfold impl_firstMeeting.f
  repeat' first
      | (with_reducible exact ih0 _ _ _ _ _ _ _ _)
      | (with_reducible exact LeO.refl _)
      | (with_reducible exact LeO.none _)
      | (with_reducible refine LeO.ite ?_ ?_)
      | (with_reducible refine LeO.bind ?_ (fun _ => ?_))
      | exact ih0 _ _ _ _ _ _ _ _
      | exact LeO.none _
      | refine LeO.ite ?_ ?_
      | refine LeO.bind ?_ (fun _ => ?_)
set_option maxHeartbeats 8000000 in
set_option maxRecDepth 100000 in
theorem impl_firstMeeting.calls (k : Nat) (a0 : Int) (a1_0 : Int) (a1_1 : Bool) (a1_2 : Int) (a2_0 : Int) (a2_1 : Bool) (a2_2 : Int) (a3 : Int) (r : Int) (w : World) (h : impl_firstMeeting.f k a0 a1_0 a1_1 a1_2 a2_0 a2_1 a2_2 a3 = some r) :
  Calls Tryz.prog 66 #[.int .i64 a0, .agg #[.int .i64 a1_0, .bool a1_1, .int .i64 a1_2], .agg #[.int .i64 a2_0, .bool a2_1, .int .i64 a2_2], .int .i64 a3] w fun e w' => e = .returned (.int .i64 r) ∧ Below w.heap.size w w' := by
 have hu36 := Tryz.underlying36
 have HB := Aside0.mk (Below.refl w.heap.size w)
 unfold impl_firstMeeting.f at h
 have H := h
 clear h
 have H' := Aside0.mk H
 clear H
 go_enter Tryz.func66, Tryz.ntmps66
 go_wp2_with (first | ((with_reducible refine gate_dst (N := 5) rfl ?_); refine bx 5 36 #[.int .i64 a1_0, .bool a1_1, .int .i64 a1_2] ?_; intro gb462 hg w5 hbox hb; have BK462 := hbox; have GW462 := gs hg; have GE462 := gs hg; replace HB := bs hb; clear hb hbox hg) | ((with_reducible refine gate_dst (N := 6) rfl ?_); refine bx 6 36 #[.int .i64 a2_0, .bool a2_1, .int .i64 a2_2] ?_; intro gb463 hg w6 hbox hb; have BK463 := hbox; have GW463 := gs hg; have GE463 := gs hg; replace HB := bs hb; have NB462_463 := nl BK462 hg; have NB463_462 := ng BK462 hg; replace BK462 := nk BK462 hb; clear hb hbox hg))
 go_loopg [9] k (fun kq v9 w' => ∃ (x9_1 : Int), v9 = .int .i64 x9_1 ∧ Aside0 (impl_firstMeeting.l0 kq a0 x9_1 a1_0 a1_1 a1_2 a2_0 a2_1 a2_2 = some r) ∧ Aside0 (kq ≤ k) ∧ Aside0 (w'.heap[gb462]? = some (.cells #[.int .i64 a1_0, .bool a1_1, .int .i64 a1_2] 36 (0, 0))) ∧ Aside0 (w'.heap[gb463]? = some (.cells #[.int .i64 a2_0, .bool a2_1, .int .i64 a2_2] 36 (0, 0))) ∧ Aside0 (Below w.heap.size w w'))
 case atStart => exact ⟨(a3), (rs), H', ⟨Nat.le_refl _⟩, ⟨pk BK462⟩, ⟨pk BK463⟩, ⟨bw⟩⟩
 case round =>
  clear H'
  try clear p2
  try clear c6
  obtain ⟨x9_1, rfl, HA, HK1, BK462, BK463, HB⟩ := hrel
  cases gk with
  | zero => exact absurd HA.out (by simp [impl_firstMeeting.l0])
  | succ k1 =>
   have H := HA.out
   clear HA
   simp only [impl_firstMeeting.l0] at H
   by_cases c7 : x9_1 ≤ 100000
   ·rw [if_pos c7] at H
    have c7b0 : decide (x9_1 ≤ 100000) = true := decide_eq_true c7
    clear c7
    replace H := Option.bind_eq_some_iff.mp H
    obtain ⟨t464, A80, H⟩ := H
    (try dsimp only at H)
    have A8 := Aside0.mk A80
    clear A80
    by_cases c9 : t464 = true
    ·subst c9
     rw [if_pos rfl] at H
     obtain rfl := Option.some.inj H
     have hnb10 := NB462_463.out
     have hnc10 := NB463_462.out
     have hcz11_0 : wr.cell? ⟨gb462, 0, none⟩ = some (.int .i64 a1_0) := ec BK462
     have hcz11_1 : wr.cell? ⟨gb462, 1, none⟩ = some (.bool a1_1) := ec BK462
     have hcz11_2 : wr.cell? ⟨gb462, 2, none⟩ = some (.int .i64 a1_2) := ec BK462
     have hfz11_0 := blk_frozen BK462.out 0
     have hfz11_1 := blk_frozen BK462.out 1
     have hfz11_2 := blk_frozen BK462.out 2
     have hcz12_0 : wr.cell? ⟨gb463, 0, none⟩ = some (.int .i64 a2_0) := ec BK463
     have hcz12_1 : wr.cell? ⟨gb463, 1, none⟩ = some (.bool a2_1) := ec BK463
     have hcz12_2 : wr.cell? ⟨gb463, 2, none⟩ = some (.int .i64 a2_2) := ec BK463
     have hfz12_0 := blk_frozen BK463.out 0
     have hfz12_1 := blk_frozen BK463.out 1
     have hfz12_2 := blk_frozen BK463.out 2
     go_wp2_with (first | ((with_reducible refine gate_callee (f := 88) rfl ?_); refine gl (some 19) Tryz.func88 #[.int .i64 a0, .agg #[.int .i64 a1_0, .bool a1_1, .int .i64 a1_2], .agg #[.int .i64 a2_0, .bool a2_1, .int .i64 a2_2], .int .i64 x9_1] ?_; (with_reducible refine (impl_meet.calls a0 a1_0 a1_1 a1_2 a2_0 a2_1 a2_2 x9_1 true _ A8.out).mono ?_); rintro e w13 ⟨rfl, hb⟩; refine ⟨_, rfl, ?_⟩; replace HB := bs hb; (try clear hb)))
     go_ret
     exact ⟨rs, bw⟩
    ·replace c9 := Bool.eq_false_iff.mpr c9
     subst c9
     rw [if_neg (show ¬ (false = true) by decide)] at H
     have H' := Aside0.mk H
     clear H
     have hnb14 := NB462_463.out
     have hnc14 := NB463_462.out
     have hcz15_0 : wr.cell? ⟨gb462, 0, none⟩ = some (.int .i64 a1_0) := ec BK462
     have hcz15_1 : wr.cell? ⟨gb462, 1, none⟩ = some (.bool a1_1) := ec BK462
     have hcz15_2 : wr.cell? ⟨gb462, 2, none⟩ = some (.int .i64 a1_2) := ec BK462
     have hfz15_0 := blk_frozen BK462.out 0
     have hfz15_1 := blk_frozen BK462.out 1
     have hfz15_2 := blk_frozen BK462.out 2
     have hcz16_0 : wr.cell? ⟨gb463, 0, none⟩ = some (.int .i64 a2_0) := ec BK463
     have hcz16_1 : wr.cell? ⟨gb463, 1, none⟩ = some (.bool a2_1) := ec BK463
     have hcz16_2 : wr.cell? ⟨gb463, 2, none⟩ = some (.int .i64 a2_2) := ec BK463
     have hfz16_0 := blk_frozen BK463.out 0
     have hfz16_1 := blk_frozen BK463.out 1
     have hfz16_2 := blk_frozen BK463.out 2
     go_wp2_with (first | ((with_reducible refine gate_callee (f := 88) rfl ?_); refine gl (some 19) Tryz.func88 #[.int .i64 a0, .agg #[.int .i64 a1_0, .bool a1_1, .int .i64 a1_2], .agg #[.int .i64 a2_0, .bool a2_1, .int .i64 a2_2], .int .i64 x9_1] ?_; (with_reducible refine (impl_meet.calls a0 a1_0 a1_1 a1_2 a2_0 a2_1 a2_2 x9_1 false _ A8.out).mono ?_); rintro e w17 ⟨rfl, hb⟩; refine ⟨_, rfl, ?_⟩; replace BK462 := nk BK462 hb; replace BK463 := nk BK463 hb; replace HB := bs hb; (try clear hb)))
     go_roundg k1
     case measure => have := HK1.out; omega
     case rel => exact ⟨(wrap64 (x9_1 + 1)), (rs), H', ⟨by have := HK1.out; omega⟩, ⟨pk BK462⟩, ⟨pk BK463⟩, ⟨bw⟩⟩
   ·rw [if_neg c7] at H
    have c7b0 : decide (x9_1 ≤ 100000) = false := decide_eq_false c7
    clear c7
    obtain rfl := Option.some.inj H
    go_wp2
    go_ret
    exact ⟨rs, bw⟩

end Go.Proofs.YtmhbcfdodcnjmaaGreatDoor.PFnSignalsReach
