-- Laid by xprint, a program of this session that runs over the kit's print.
import Derived.Test.YtphfbldnoinanaaPFnExactAddCluex0
import Derived.Test.YtphfbldnoinanaaPFnExactAddCluex4
namespace Go.Proofs.Ytphfbldnoinanaa.PFnExactAddClue
open Go.RowKit Go.Proofs.YtphfbldnoinanaaW.PrintWords Go.Proofs.YtphfbldnoinanaaW.PrintLast Go.Proofs.YtphfbldnoinanaaW.PrintMore Go.Proofs.Ytphfbldnoinanaa.Sq
attribute [local go_sem] max2_int min2_int max_two min_two max_three min_three max_four min_four   -- for this text's walks alone
set_option linter.unusedVariables false
set_option linter.unusedSimpArgs false

/-! ### impl_AddClue: function 13 -/
def impl_AddClue.f (k : Nat) (a0_0 : Int) (l0_1 : List (S37)) (a1_0 : Int) (a1_1 : Int) (a1_2 : Int) (a1_3 : Int) : Option (Int × (List (S37)) × Bool) := (impl_Clue_24.f l0_1).bind fun t175 => ((some (([(⟨a1_0, a1_1, a1_2, a1_3⟩ : S37)] : List (S37)) : List (S37))).bind fun y178 => (if t175.length + y178.length < 4398046511104 then ((some (t175 ++ y178 : List (S37))).bind fun y181 => ((impl_isPuzzle.f k a0_0 y181).bind fun t185 => (if t185 = true then (some (a0_0, y181, true)) else (some (0, ([] : List (S37)), false))))) else (none)))
theorem impl_AddClue.mono : ∀ a0 a1 a2 a3 a4 a5 k, LeO (impl_AddClue.f k a0 a1 a2 a3 a4 a5) (impl_AddClue.f (k + 1) a0 a1 a2 a3 a4 a5) := by
  intro a0 a1 a2 a3 a4 a5 k
  unfold impl_AddClue.f
  repeat' first
      | (with_reducible exact impl_isPuzzle.mono _ _ _)
      | (with_reducible exact LeO.refl _)
      | (with_reducible exact LeO.none _)
      | (with_reducible refine LeO.ite ?_ ?_)
      | (with_reducible refine LeO.bind ?_ (fun _ => ?_))
      | exact impl_isPuzzle.mono _ _ _
      | exact LeO.none _
      | refine LeO.ite ?_ ?_
      | refine LeO.bind ?_ (fun _ => ?_)
def impl_AddClue.T1 : Bool × List (List Nat × List Nat) := (true, [([], []), ([0], [0]), ([], []), ([2], [2]), ([3], [3]), ([], []), ([5], [5]), ([4, 6, 4], [4, 6]), ([1, 7], [1, 7]), ([], []), ([9, 8, 7, 0, 1, 2, 3, 4, 5, 6, 7, 8, 9], [8, 9])])
def impl_AddClue.B1 : List Nat := [0, 1, 0, 4, 12, 0, 32, 124, 255, 0, 1023]
theorem impl_AddClue.tab1 : rtab .any (opsOf Try.f13 1) = impl_AddClue.T1 := by kernel_rfl
theorem impl_AddClue.bits1 : waitsOk impl_AddClue.T1.2 impl_AddClue.B1 = true := by kernel_rfl
set_option maxHeartbeats 8000000 in
set_option maxRecDepth 100000 in
theorem impl_AddClue.calls (k : Nat) (a0_0 : Int) (A0_1 : Option Addr) (c0_1 : Nat) (l0_1 : List (S37)) (a1_0 : Int) (a1_1 : Int) (a1_2 : Int) (a1_3 : Int) (r1 : Int) (r2 : List (S37)) (r3 : Bool) (w : World) (hr0_1 : Kd.C k37 w A0_1 l0_1.length l0_1) (hc0_1 : l0_1.length ≤ c0_1) (h : impl_AddClue.f k a0_0 l0_1 a1_0 a1_1 a1_2 a1_3 = some (r1, r2, r3)) :
  Calls Try.prog 13 #[.agg #[.int .i64 a0_0, .slice A0_1 l0_1.length c0_1], .agg #[.int .i64 a1_0, .int .i64 a1_1, .int .i64 a1_2, .int .i64 a1_3]] w fun e w' => ∃ v1_ : Value, e = .returned (.tuple #[.agg #[.int .i64 r1, v1_], .bool r3]) ∧ Kd.R k37 37 w' w.heap.size (fun _ => True) v1_ r2 ∧ Below w.heap.size w w' := by
 have hu29 := Try.underlying29
 have hu37 := Try.underlying37
 have HR0_1 := Aside0.mk hr0_1
 have HC0_1 := Aside0.mk hc0_1
 clear hr0_1 hc0_1
 have HB := Aside0.mk (Below.refl w.heap.size w)
 unfold impl_AddClue.f at h
 have H := h
 clear h
 replace H := Option.bind_eq_some_iff.mp H
 obtain ⟨t175, A30, H⟩ := H
 (try dsimp only at H)
 have A3 := Aside0.mk A30
 clear A30
 obtain ⟨y178, hy178⟩ : ∃ y_ : List (S37), y_ = (([(⟨a1_0, a1_1, a1_2, a1_3⟩ : S37)] : List (S37))) := ⟨_, rfl⟩
 replace H : (if t175.length + y178.length < 4398046511104 then ((some (t175 ++ y178 : List (S37))).bind fun y181 => ((impl_isPuzzle.f k a0_0 y181).bind fun t185 => (if t185 = true then (some (a0_0, y181, true)) else (some (0, ([] : List (S37)), false))))) else (none)) = some (r1, r2, r3) := by first | (rw [hy178]; with_reducible exact H) | (have H2_ := (Option.bind_some _ _).symm.trans H; rw [hy178]; with_reducible exact H2_) | (have H2_ := (Option.bind_some _ _).symm.trans H; with_reducible exact H2_) | with_reducible exact H | (rw [hy178]; exact H) | exact H
 have Ny178 := Aside0.mk hy178
 clear hy178
 by_cases c4 : t175.length + y178.length < 4398046511104
 ·rw [if_pos c4] at H
  have LMc4 := Aside0.mk c4
  clear c4
  obtain ⟨y181, hy181⟩ : ∃ y_ : List (S37), y_ = (t175 ++ y178) := ⟨_, rfl⟩
  replace H : ((impl_isPuzzle.f k a0_0 y181).bind fun t185 => (if t185 = true then (some (a0_0, y181, true)) else (some (0, ([] : List (S37)), false)))) = some (r1, r2, r3) := by first | (rw [hy181]; with_reducible exact H) | (have H2_ := (Option.bind_some _ _).symm.trans H; rw [hy181]; with_reducible exact H2_) | (have H2_ := (Option.bind_some _ _).symm.trans H; with_reducible exact H2_) | with_reducible exact H | (rw [hy181]; exact H) | exact H
  have Ny181 := Aside0.mk hy181
  clear hy181
  replace H := Option.bind_eq_some_iff.mp H
  obtain ⟨t185, A50, H⟩ := H
  (try dsimp only at H)
  have A5 := Aside0.mk A50
  clear A50
  by_cases c6 : t185 = true
  ·subst c6
   rw [if_pos rfl] at H
   simp only [Option.some.injEq, Prod.mk.injEq] at H
   obtain ⟨rfl, rfl, rfl⟩ := H
   go_enter Try.func13, Try.ntmps13
   try go_wp2_with (first | ((with_reducible refine gate_dst (N := 2) rfl ?_); refine bx 2 29 #[.int .i64 a0_0, .slice A0_1 l0_1.length c0_1] ?_; intro gb172 hg w7 hbox hb; have BK172 := hbox; have GW172 := gs hg; have GE172 := gs hg; replace HB := bs hb; clear hb hbox hg) | ((with_reducible refine gate_dst (N := 3) rfl ?_); refine bx 3 37 #[.int .i64 a1_0, .int .i64 a1_1, .int .i64 a1_2, .int .i64 a1_3] ?_; intro gb173 hg w8 hbox hb; have BK173 := hbox; have GW173 := gs hg; have GE173 := gs hg; replace HB := bs hb; have NB172_173 := nl BK172 hg; have NB173_172 := ng BK172 hg; replace BK172 := nk BK172 hb; clear hb hbox hg) | ((with_reducible refine gate_dst (N := 4) rfl ?_); refine bx 4 29 #[.int .i64 0, .slice none 0 0] ?_; intro gb174 hg w9 hbox hb; have BK174 := hbox; have GW174 := gs hg; have GE174 := gs hg; replace HB := bs hb; have NB172_174 := nl BK172 hg; have NB174_172 := ng BK172 hg; replace BK172 := nk BK172 hb; have NB173_174 := nl BK173 hg; have NB174_173 := ng BK173 hg; replace BK173 := nk BK173 hb; clear hb hbox hg))
   replace BK172 := Aside0.mk (blk_drew BK172.out)
   replace BK173 := Aside0.mk (blk_drew BK173.out)
   replace BK174 := Aside0.mk (blk_drew BK174.out)
   replace HB := Aside0.mk (below_drew1 HB.out)
   refine start_ (n := 11) (S := fun w' => w'.cell? ⟨gb172, 0, none⟩ = some (.int .i64 a0_0) ∧ w'.cell? ⟨gb172, 1, none⟩ = some (.slice A0_1 l0_1.length c0_1) ∧ w'.cell? ⟨gb173, 0, none⟩ = some (.int .i64 a1_0) ∧ w'.cell? ⟨gb173, 1, none⟩ = some (.int .i64 a1_1) ∧ w'.cell? ⟨gb173, 2, none⟩ = some (.int .i64 a1_2) ∧ w'.cell? ⟨gb173, 3, none⟩ = some (.int .i64 a1_3)) (ds := []) #[false, false, false, false, false, false, false, false, false, false, false] (by kernel_rfl) rfl rfl ⟨ec BK172, ec BK172, ec BK173, ec BK173, ec BK173, ec BK173⟩ (fun hHeld => ?_); refine with_tabW impl_AddClue.tab1 impl_AddClue.bits1 (fun HT_ HW_ => ?_)
   generalize w9.drew = w10 at BK172 BK173 BK174 HB hHeld ⊢
   refine pu 0 (some 7) #[true, false, false, false, false, false, false, false, false, false, false] ?_
   refine pu 2 (some 9) #[true, false, true, false, false, false, false, false, false, false, false] ?_
   refine take_ (i := 1) (N := some 8) (v := ?_) (a' := ?_) #[true, true, true, false, false, false, false, false, false, false, false] rfl rfl (take_ofW HT_.out HW_.out (by kernel_rfl)) (fun _ _ _ h => h) (Or.inl ⟨by rfl, ?_⟩) hHeld ?_ ?_
   rotate_left
   ·rintro w' ⟨s0, s1, s2, s3, s4, s5⟩
    go_simp
    with_reducible rfl
   rotate_left
   ·simp only [Act.put, List.setIfInBounds_toArray, List.set_cons_zero, List.set_cons_succ, i64_w, i32_w]
    rfl
   refine take_ (i := 3) (N := some 10) (v := ?_) (a' := ?_) #[true, true, true, true, false, false, false, false, false, false, false] rfl rfl (take_ofW HT_.out HW_.out (by kernel_rfl)) (fun _ _ _ h => h) (Or.inl ⟨by rfl, ?_⟩) hHeld ?_ ?_
   rotate_left
   ·rintro w' ⟨s0, s1, s2, s3, s4, s5⟩
    go_simp
    with_reducible rfl
   rotate_left
   ·simp only [Act.put, List.setIfInBounds_toArray, List.set_cons_zero, List.set_cons_succ, i64_w, i32_w]
    rfl
   refine take_ (i := 5) (N := some 12) (v := ?_) (a' := ?_) #[true, true, true, true, false, true, false, false, false, false, false] rfl rfl (take_ofW HT_.out HW_.out (by kernel_rfl)) (fun _ _ _ h => h) (Or.inl ⟨by rfl, ?_⟩) hHeld ?_ ?_
   rotate_left
   ·rintro w' ⟨s0, s1, s2, s3, s4, s5⟩
    go_simp
    with_reducible rfl
   rotate_left
   ·simp only [Act.put, List.setIfInBounds_toArray, List.set_cons_zero, List.set_cons_succ, i64_w, i32_w]
    rfl
   refine join_ (σ := Value × Value × Value × Nat) 1 #[true, true, true, true, true, true, true, true, true, true, false] (fun s_ => [(11, s_.1), (13, s_.2.1), (14, s_.2.2.1), (6, .pointer (some ⟨s_.2.2.2, 0, none⟩)), (15, .agg #[.int .i64 a0_0, s_.2.2.1])]) (fun s_ w' => (w'.cell? ⟨gb172, 0, none⟩ = some (.int .i64 a0_0) ∧ w'.cell? ⟨gb172, 1, none⟩ = some (.slice A0_1 l0_1.length c0_1) ∧ w'.cell? ⟨gb173, 0, none⟩ = some (.int .i64 a1_0) ∧ w'.cell? ⟨gb173, 1, none⟩ = some (.int .i64 a1_1) ∧ w'.cell? ⟨gb173, 2, none⟩ = some (.int .i64 a1_2) ∧ w'.cell? ⟨gb173, 3, none⟩ = some (.int .i64 a1_3)) ∧ (Kd.R k37 37 w' w.heap.size (fun k_ => some k_ ≠ (s_.2.2.1 : Value).ownBlock ∧ k_ ≠ gb173) s_.2.1 y178) ∧ (Kd.R k37 37 w' w.heap.size (fun k_ => some k_ ≠ (s_.2.1 : Value).ownBlock ∧ k_ ≠ gb173) s_.2.2.1 y181) ∧ (w'.heap[gb172]? = some (.cells #[.int .i64 a0_0, .slice A0_1 l0_1.length c0_1] 29 (0, 0))) ∧ (w'.heap[gb173]? = some (.cells #[.int .i64 a1_0, .int .i64 a1_1, .int .i64 a1_2, .int .i64 a1_3] 37 (0, 0))) ∧ (w'.heap[gb174]? = some (.cells #[.int .i64 0, .slice none 0 0] 29 (0, 0))) ∧ (w'.heap[s_.2.2.2]? = some (.cells #[.int .i64 0, .slice none 0 0] 29 (0, 0))) ∧ (w.heap.size ≤ s_.2.2.2) ∧ (w.heap.size ≤ s_.2.2.2) ∧ (gb172 ≠ s_.2.2.2) ∧ (s_.2.2.2 ≠ gb172) ∧ (gb173 ≠ s_.2.2.2) ∧ (s_.2.2.2 ≠ gb173) ∧ (gb174 ≠ s_.2.2.2) ∧ (s_.2.2.2 ≠ gb174) ∧ (Below w.heap.size w w')) ?_ ?_
   rotate_left
   ·intro hJ4_6_7_9
    refine join_ (σ := Value × Value × Value) 2 #[true, true, true, true, true, true, true, true, true, false, false] (fun s_ => [(11, s_.1), (13, s_.2.1), (14, s_.2.2), (15, .agg #[.int .i64 a0_0, s_.2.2])]) (fun s_ w' => (w'.cell? ⟨gb172, 0, none⟩ = some (.int .i64 a0_0) ∧ w'.cell? ⟨gb172, 1, none⟩ = some (.slice A0_1 l0_1.length c0_1) ∧ w'.cell? ⟨gb173, 0, none⟩ = some (.int .i64 a1_0) ∧ w'.cell? ⟨gb173, 1, none⟩ = some (.int .i64 a1_1) ∧ w'.cell? ⟨gb173, 2, none⟩ = some (.int .i64 a1_2) ∧ w'.cell? ⟨gb173, 3, none⟩ = some (.int .i64 a1_3)) ∧ (Kd.R k37 37 w' w.heap.size (fun k_ => some k_ ≠ (s_.2.2 : Value).ownBlock ∧ k_ ≠ gb173) s_.2.1 y178) ∧ (Kd.R k37 37 w' w.heap.size (fun k_ => some k_ ≠ (s_.2.1 : Value).ownBlock ∧ k_ ≠ gb173) s_.2.2 y181) ∧ (w'.heap[gb172]? = some (.cells #[.int .i64 a0_0, .slice A0_1 l0_1.length c0_1] 29 (0, 0))) ∧ (w'.heap[gb173]? = some (.cells #[.int .i64 a1_0, .int .i64 a1_1, .int .i64 a1_2, .int .i64 a1_3] 37 (0, 0))) ∧ (w'.heap[gb174]? = some (.cells #[.int .i64 0, .slice none 0 0] 29 (0, 0))) ∧ (Below w.heap.size w w')) ?_ ?_
    rotate_left
    ·intro hJ4_6_7
     refine join_ (σ := Value × Value × Nat) 3 #[true, true, true, true, true, true, true, false, false, true, false] (fun s_ => [(11, s_.1), (13, s_.2.1), (6, .pointer (some ⟨s_.2.2, 0, none⟩))]) (fun s_ w' => (w'.cell? ⟨gb172, 0, none⟩ = some (.int .i64 a0_0) ∧ w'.cell? ⟨gb172, 1, none⟩ = some (.slice A0_1 l0_1.length c0_1) ∧ w'.cell? ⟨gb173, 0, none⟩ = some (.int .i64 a1_0) ∧ w'.cell? ⟨gb173, 1, none⟩ = some (.int .i64 a1_1) ∧ w'.cell? ⟨gb173, 2, none⟩ = some (.int .i64 a1_2) ∧ w'.cell? ⟨gb173, 3, none⟩ = some (.int .i64 a1_3)) ∧ (Kd.R k37 37 w' w.heap.size (fun k_ => some k_ ≠ (s_.2.1 : Value).ownBlock ∧ k_ ≠ gb173) s_.1 t175) ∧ (Kd.R k37 37 w' w.heap.size (fun k_ => some k_ ≠ (s_.1 : Value).ownBlock ∧ k_ ≠ gb173) s_.2.1 y178) ∧ (w'.heap[gb172]? = some (.cells #[.int .i64 a0_0, .slice A0_1 l0_1.length c0_1] 29 (0, 0))) ∧ (w'.heap[gb173]? = some (.cells #[.int .i64 a1_0, .int .i64 a1_1, .int .i64 a1_2, .int .i64 a1_3] 37 (0, 0))) ∧ (w'.heap[gb174]? = some (.cells #[.int .i64 0, .slice none 0 0] 29 (0, 0))) ∧ (w'.heap[s_.2.2]? = some (.cells #[.int .i64 0, .slice none 0 0] 29 (0, 0))) ∧ (w.heap.size ≤ s_.2.2) ∧ (w.heap.size ≤ s_.2.2) ∧ (gb172 ≠ s_.2.2) ∧ (s_.2.2 ≠ gb172) ∧ (gb173 ≠ s_.2.2) ∧ (s_.2.2 ≠ gb173) ∧ (gb174 ≠ s_.2.2) ∧ (s_.2.2 ≠ gb174) ∧ (Below w.heap.size w w')) ?_ ?_
     rotate_left
     ·intro hJ4_6_9
      refine join_ (σ := Value × Value) 4 #[true, true, true, true, true, true, true, false, false, false, false] (fun s_ => [(11, s_.1), (13, s_.2)]) (fun s_ w' => (w'.cell? ⟨gb172, 0, none⟩ = some (.int .i64 a0_0) ∧ w'.cell? ⟨gb172, 1, none⟩ = some (.slice A0_1 l0_1.length c0_1) ∧ w'.cell? ⟨gb173, 0, none⟩ = some (.int .i64 a1_0) ∧ w'.cell? ⟨gb173, 1, none⟩ = some (.int .i64 a1_1) ∧ w'.cell? ⟨gb173, 2, none⟩ = some (.int .i64 a1_2) ∧ w'.cell? ⟨gb173, 3, none⟩ = some (.int .i64 a1_3)) ∧ (Kd.R k37 37 w' w.heap.size (fun k_ => some k_ ≠ (s_.2 : Value).ownBlock ∧ k_ ≠ gb173) s_.1 t175) ∧ (Kd.R k37 37 w' w.heap.size (fun k_ => some k_ ≠ (s_.1 : Value).ownBlock ∧ k_ ≠ gb173) s_.2 y178) ∧ (w'.heap[gb172]? = some (.cells #[.int .i64 a0_0, .slice A0_1 l0_1.length c0_1] 29 (0, 0))) ∧ (w'.heap[gb173]? = some (.cells #[.int .i64 a1_0, .int .i64 a1_1, .int .i64 a1_2, .int .i64 a1_3] 37 (0, 0))) ∧ (w'.heap[gb174]? = some (.cells #[.int .i64 0, .slice none 0 0] 29 (0, 0))) ∧ (Below w.heap.size w w')) ?_ ?_
      rotate_left
      ·intro hJ4_6
       refine join_ (σ := Value × Nat) 4 #[true, true, true, true, true, true, false, false, false, true, false] (fun s_ => [(11, s_.1), (6, .pointer (some ⟨s_.2, 0, none⟩))]) (fun s_ w' => (w'.cell? ⟨gb172, 0, none⟩ = some (.int .i64 a0_0) ∧ w'.cell? ⟨gb172, 1, none⟩ = some (.slice A0_1 l0_1.length c0_1) ∧ w'.cell? ⟨gb173, 0, none⟩ = some (.int .i64 a1_0) ∧ w'.cell? ⟨gb173, 1, none⟩ = some (.int .i64 a1_1) ∧ w'.cell? ⟨gb173, 2, none⟩ = some (.int .i64 a1_2) ∧ w'.cell? ⟨gb173, 3, none⟩ = some (.int .i64 a1_3)) ∧ (Kd.R k37 37 w' w.heap.size (fun k_ => k_ ≠ gb173) s_.1 t175) ∧ (w'.heap[gb172]? = some (.cells #[.int .i64 a0_0, .slice A0_1 l0_1.length c0_1] 29 (0, 0))) ∧ (w'.heap[gb173]? = some (.cells #[.int .i64 a1_0, .int .i64 a1_1, .int .i64 a1_2, .int .i64 a1_3] 37 (0, 0))) ∧ (w'.heap[gb174]? = some (.cells #[.int .i64 0, .slice none 0 0] 29 (0, 0))) ∧ (w'.heap[s_.2]? = some (.cells #[.int .i64 0, .slice none 0 0] 29 (0, 0))) ∧ (w.heap.size ≤ s_.2) ∧ (w.heap.size ≤ s_.2) ∧ (gb172 ≠ s_.2) ∧ (s_.2 ≠ gb172) ∧ (gb173 ≠ s_.2) ∧ (s_.2 ≠ gb173) ∧ (gb174 ≠ s_.2) ∧ (s_.2 ≠ gb174) ∧ (Below w.heap.size w w')) ?_ ?_
       rotate_left
       ·intro hJ4_9
        refine join_ (σ := Value × Nat) 4 #[true, true, true, true, false, true, true, false, false, true, false] (fun s_ => [(13, s_.1), (6, .pointer (some ⟨s_.2, 0, none⟩))]) (fun s_ w' => (w'.cell? ⟨gb172, 0, none⟩ = some (.int .i64 a0_0) ∧ w'.cell? ⟨gb172, 1, none⟩ = some (.slice A0_1 l0_1.length c0_1) ∧ w'.cell? ⟨gb173, 0, none⟩ = some (.int .i64 a1_0) ∧ w'.cell? ⟨gb173, 1, none⟩ = some (.int .i64 a1_1) ∧ w'.cell? ⟨gb173, 2, none⟩ = some (.int .i64 a1_2) ∧ w'.cell? ⟨gb173, 3, none⟩ = some (.int .i64 a1_3)) ∧ (Kd.R k37 37 w' w.heap.size (fun k_ => k_ ≠ gb173) s_.1 y178) ∧ (w'.heap[gb172]? = some (.cells #[.int .i64 a0_0, .slice A0_1 l0_1.length c0_1] 29 (0, 0))) ∧ (w'.heap[gb173]? = some (.cells #[.int .i64 a1_0, .int .i64 a1_1, .int .i64 a1_2, .int .i64 a1_3] 37 (0, 0))) ∧ (w'.heap[gb174]? = some (.cells #[.int .i64 0, .slice none 0 0] 29 (0, 0))) ∧ (w'.heap[s_.2]? = some (.cells #[.int .i64 0, .slice none 0 0] 29 (0, 0))) ∧ (w.heap.size ≤ s_.2) ∧ (w.heap.size ≤ s_.2) ∧ (gb172 ≠ s_.2) ∧ (s_.2 ≠ gb172) ∧ (gb173 ≠ s_.2) ∧ (s_.2 ≠ gb173) ∧ (gb174 ≠ s_.2) ∧ (s_.2 ≠ gb174) ∧ (Below w.heap.size w w')) ?_ ?_
        rotate_left
        ·intro hJ6_9
         refine join_ (σ := Value) 5 #[true, true, true, true, true, true, false, false, false, false, false] (fun s_ => [(11, s_)]) (fun s_ w' => (w'.cell? ⟨gb172, 0, none⟩ = some (.int .i64 a0_0) ∧ w'.cell? ⟨gb172, 1, none⟩ = some (.slice A0_1 l0_1.length c0_1) ∧ w'.cell? ⟨gb173, 0, none⟩ = some (.int .i64 a1_0) ∧ w'.cell? ⟨gb173, 1, none⟩ = some (.int .i64 a1_1) ∧ w'.cell? ⟨gb173, 2, none⟩ = some (.int .i64 a1_2) ∧ w'.cell? ⟨gb173, 3, none⟩ = some (.int .i64 a1_3)) ∧ (Kd.R k37 37 w' w.heap.size (fun k_ => k_ ≠ gb173) s_ t175) ∧ (w'.heap[gb172]? = some (.cells #[.int .i64 a0_0, .slice A0_1 l0_1.length c0_1] 29 (0, 0))) ∧ (w'.heap[gb173]? = some (.cells #[.int .i64 a1_0, .int .i64 a1_1, .int .i64 a1_2, .int .i64 a1_3] 37 (0, 0))) ∧ (w'.heap[gb174]? = some (.cells #[.int .i64 0, .slice none 0 0] 29 (0, 0))) ∧ (Below w.heap.size w w')) ?_ ?_
         rotate_left
         ·intro hJ4
          refine join_ (σ := Value) 5 #[true, true, true, true, false, true, true, false, false, false, false] (fun s_ => [(13, s_)]) (fun s_ w' => (w'.cell? ⟨gb172, 0, none⟩ = some (.int .i64 a0_0) ∧ w'.cell? ⟨gb172, 1, none⟩ = some (.slice A0_1 l0_1.length c0_1) ∧ w'.cell? ⟨gb173, 0, none⟩ = some (.int .i64 a1_0) ∧ w'.cell? ⟨gb173, 1, none⟩ = some (.int .i64 a1_1) ∧ w'.cell? ⟨gb173, 2, none⟩ = some (.int .i64 a1_2) ∧ w'.cell? ⟨gb173, 3, none⟩ = some (.int .i64 a1_3)) ∧ (Kd.R k37 37 w' w.heap.size (fun k_ => k_ ≠ gb173) s_ y178) ∧ (w'.heap[gb172]? = some (.cells #[.int .i64 a0_0, .slice A0_1 l0_1.length c0_1] 29 (0, 0))) ∧ (w'.heap[gb173]? = some (.cells #[.int .i64 a1_0, .int .i64 a1_1, .int .i64 a1_2, .int .i64 a1_3] 37 (0, 0))) ∧ (w'.heap[gb174]? = some (.cells #[.int .i64 0, .slice none 0 0] 29 (0, 0))) ∧ (Below w.heap.size w w')) ?_ ?_
          rotate_left
          ·intro hJ6
           refine join_ (σ := Nat) 5 #[true, true, true, true, false, true, false, false, false, true, false] (fun s_ => [(6, .pointer (some ⟨s_, 0, none⟩))]) (fun s_ w' => (w'.cell? ⟨gb172, 0, none⟩ = some (.int .i64 a0_0) ∧ w'.cell? ⟨gb172, 1, none⟩ = some (.slice A0_1 l0_1.length c0_1) ∧ w'.cell? ⟨gb173, 0, none⟩ = some (.int .i64 a1_0) ∧ w'.cell? ⟨gb173, 1, none⟩ = some (.int .i64 a1_1) ∧ w'.cell? ⟨gb173, 2, none⟩ = some (.int .i64 a1_2) ∧ w'.cell? ⟨gb173, 3, none⟩ = some (.int .i64 a1_3)) ∧ (w'.heap[gb172]? = some (.cells #[.int .i64 a0_0, .slice A0_1 l0_1.length c0_1] 29 (0, 0))) ∧ (w'.heap[gb173]? = some (.cells #[.int .i64 a1_0, .int .i64 a1_1, .int .i64 a1_2, .int .i64 a1_3] 37 (0, 0))) ∧ (w'.heap[gb174]? = some (.cells #[.int .i64 0, .slice none 0 0] 29 (0, 0))) ∧ (w'.heap[s_]? = some (.cells #[.int .i64 0, .slice none 0 0] 29 (0, 0))) ∧ (w.heap.size ≤ s_) ∧ (w.heap.size ≤ s_) ∧ (gb172 ≠ s_) ∧ (s_ ≠ gb172) ∧ (gb173 ≠ s_) ∧ (s_ ≠ gb173) ∧ (gb174 ≠ s_) ∧ (s_ ≠ gb174) ∧ (Below w.heap.size w w')) ?_ ?_
           rotate_left
           ·intro hJ9
            refine three_ (i := 4) (j := 6) (k := 9) (Ni := some 11) (Nj := some 13) (Nk := some 6) #[true, true, true, true, true, true, false, false, false, false, false] #[true, true, true, true, false, true, true, false, false, false, false] #[true, true, true, true, false, true, false, false, false, true, false] rfl rfl rfl rfl rfl rfl (three_of HT_.out (by kernel_rfl)) (by decide) (by decide) (by decide) (fun K hK => ?_) (fun K hK => ?_) (fun K hK => ?_)
            ·skip
             refine goes_ Try.func24 (by kernel_rfl) rfl #[.slice A0_1 l0_1.length c0_1] (by rfl) rfl rfl (by (try simp only [List.map_toArray, List.map_cons, List.map_nil]); first | done | rfl | (simp only [List.length_drop, List.length_take]; rfl)) ?_
             with_reducible refine (impl_Clue_24.calls _ _ l0_1 t175 _ ?side1 ?side2 A3.out).mono ?_
             (case side1 => repeat (first | exact (Kd.C_below HR0_1.out HB.out) | (with_reducible refine Kd.C_alloc ?_ _) | (with_reducible refine Kd.C_drewN ?_ _) | (with_reducible refine Kd.C_drew ?_)))
             (case side2 => exact HC0_1.out)
             rintro e w11 ⟨v176, rfl, ho0, hb⟩
             refine ⟨_, rfl, ?_⟩
             have HO177 := Aside0.mk (Kd.R_lower (Kd.R_newB ho0 (g := gb173) (o := .cells #[.int .i64 a1_0, .int .i64 a1_1, .int .i64 a1_2, .int .i64 a1_3] 37 (0, 0)) (pk BK173)) (below_size bw))
             replace BK172 := nk BK172 hb
             replace BK173 := nk BK173 hb
             replace BK174 := nk BK174 hb
             replace HB := bs hb
             (try clear hb)
             (try clear ho0)
             refine hK.out _ _ ⟨ec BK172, ec BK172, ec BK173, ec BK173, ec BK173, ec BK173⟩ (fun hHeld => ?_)
             clear hK K
             refine nm (some 11) ?_
             exact norm_ (by first | (simp only [putAll, Act.put, List.setIfInBounds_toArray, List.set_cons_zero, List.set_cons_succ]; done) | (simp only [putAll, Act.put, List.setIfInBounds_toArray, List.set_cons_zero, List.set_cons_succ]; rfl)) (hJ4 (v176) _ ⟨hHeld, (by (with_reducible repeat (first | apply Kd.R_alloc | apply Kd.R_drewN | apply Kd.R_drew)); exact Kd.R_mono HO177.out (fun _ hk => hk.2)), (pk BK172), (pk BK173), (pk BK174), bw⟩)
            ·skip
             refine Kd.R_lit_step k37 _ 37 ?hg (N := 13) ?hd (xs := ([(⟨a1_0, a1_1, a1_2, a1_3⟩ : S37)] : List (S37))) (inner := [.int .i64 a1_0, .int .i64 a1_1, .int .i64 a1_2, .int .i64 a1_3]) (ok := fun _ => True) (okp := fun _ => True) ?hr ?hp (fun _ hk => hk) trivial (Below.refl _ _) (Nat.le_refl _) (by simp) ?_; (case hd => rfl); (case hg => rfl); (case hr => first | (go_simp; done) | (go_simp; rfl)); (case hp => exact (Reps.c4 (show Kd.M k37 _ _ _ (⟨a1_0, a1_1, a1_2, a1_3⟩ : S37) [.int .i64 a1_0, .int .i64 a1_1, .int .i64 a1_2, .int .i64 a1_3] from (k37_mkM _ _ _ (⟨a1_0, a1_1, a1_2, a1_3⟩ : S37) )) (Reps.none _ _)))
             intro v179 w11 ho12 hb hg_ hnew_
             clear hg_ hnew_
             (first | rw [← Ny178.out] at ho12 | (simp only [Int.reduceToNat] at ho12; rw [← Ny178.out] at ho12))
             have HO180 := Aside0.mk (Kd.R_lower (Kd.R_newB ho12 (g := gb173) (o := .cells #[.int .i64 a1_0, .int .i64 a1_1, .int .i64 a1_2, .int .i64 a1_3] 37 (0, 0)) (pk BK173)) (below_size bw))
             replace BK172 := nk BK172 hb
             replace BK173 := nk BK173 hb
             replace BK174 := nk BK174 hb
             replace HB := bs hb
             clear hb ho12
             refine hK.out _ _ ⟨ec BK172, ec BK172, ec BK173, ec BK173, ec BK173, ec BK173⟩ (fun hHeld => ?_)
             clear hK K
             refine nm (some 13) ?_
             exact norm_ (by first | (simp only [putAll, Act.put, List.setIfInBounds_toArray, List.set_cons_zero, List.set_cons_succ]; done) | (simp only [putAll, Act.put, List.setIfInBounds_toArray, List.set_cons_zero, List.set_cons_succ]; rfl)) (hJ6 (v179) _ ⟨hHeld, (by (with_reducible repeat (first | apply Kd.R_alloc | apply Kd.R_drewN | apply Kd.R_drew)); exact Kd.R_mono HO180.out (fun _ hk => hk.2)), (pk BK172), (pk BK173), (pk BK174), bw⟩)
            ·skip
             refine box_step ?hg (N := 6) ?hd (cs := #[.int .i64 0, .slice none 0 0]) (t := 29) ?hr ?_; (case hd => rfl); (case hg => rfl); (case hr => first | (go_simp; done) | (go_simp; rfl))
             intro gb184 hg w11 hbox hb
             have BK184 := Aside0.mk (hbox)
             have GW184 := gs hg
             have GE184 := gs hg
             replace HB := bs hb
             have NB172_184 := nl BK172 hg
             have NB184_172 := ng BK172 hg
             replace BK172 := nk BK172 hb
             have NB173_184 := nl BK173 hg
             have NB184_173 := ng BK173 hg
             replace BK173 := nk BK173 hb
             have NB174_184 := nl BK174 hg
             have NB184_174 := ng BK174 hg
             replace BK174 := nk BK174 hb
             clear hb hbox hg
             refine hK.out _ _ ⟨ec BK172, ec BK172, ec BK173, ec BK173, ec BK173, ec BK173⟩ (fun hHeld => ?_)
             clear hK K
             refine nm (some 6) ?_
             exact norm_ (by first | (simp only [putAll, Act.put, List.setIfInBounds_toArray, List.set_cons_zero, List.set_cons_succ]; done) | (simp only [putAll, Act.put, List.setIfInBounds_toArray, List.set_cons_zero, List.set_cons_succ]; rfl)) (hJ9 (gb184) _ ⟨hHeld, (pk BK172), (pk BK173), (pk BK174), (pk BK184), GW184.out, GE184.out, NB172_184.out, NB184_172.out, NB173_184.out, NB184_173.out, NB174_184.out, NB184_174.out, bw⟩)
           ·skip
            rintro gb184 w12 ⟨hS_, h0_, h1_, h2_, h3_, h4_, h5_, h6_, h7_, h8_, h9_, h10_, h11_, h12_⟩
            have n0_ : Aside0 (w12.heap[gb172]? = some (.cells #[.int .i64 a0_0, .slice A0_1 l0_1.length c0_1] 29 (0, 0))) := ⟨h0_⟩
            have n1_ : Aside0 (w12.heap[gb173]? = some (.cells #[.int .i64 a1_0, .int .i64 a1_1, .int .i64 a1_2, .int .i64 a1_3] 37 (0, 0))) := ⟨h1_⟩
            have n2_ : Aside0 (w12.heap[gb174]? = some (.cells #[.int .i64 0, .slice none 0 0] 29 (0, 0))) := ⟨h2_⟩
            have n3_ : Aside0 (w12.heap[gb184]? = some (.cells #[.int .i64 0, .slice none 0 0] 29 (0, 0))) := ⟨h3_⟩
            have n4_ : Aside0 (w.heap.size ≤ gb184) := ⟨h4_⟩
            have n5_ : Aside0 (w.heap.size ≤ gb184) := ⟨h5_⟩
            have n6_ : Aside0 (gb172 ≠ gb184) := ⟨h6_⟩
            have n7_ : Aside0 (gb184 ≠ gb172) := ⟨h7_⟩
            have n8_ : Aside0 (gb173 ≠ gb184) := ⟨h8_⟩
            have n9_ : Aside0 (gb184 ≠ gb173) := ⟨h9_⟩
            have n10_ : Aside0 (gb174 ≠ gb184) := ⟨h10_⟩
            have n11_ : Aside0 (gb184 ≠ gb174) := ⟨h11_⟩
            have n12_ : Aside0 (Below w.heap.size w w12) := ⟨h12_⟩
            clear BK172
            clear BK173
            clear BK174
            clear HB
            clear h0_ h1_ h2_ h3_ h4_ h5_ h6_ h7_ h8_ h9_ h10_ h11_ h12_
            have BK172 := n0_
            have BK173 := n1_
            have BK174 := n2_
            have BK184 := n3_
            have GW184 := n4_
            have GE184 := n5_
            have NB172_184 := n6_
            have NB184_172 := n7_
            have NB173_184 := n8_
            have NB184_173 := n9_
            have NB174_184 := n10_
            have NB184_174 := n11_
            have HB := n12_
            clear n0_ n1_ n2_ n3_ n4_ n5_ n6_ n7_ n8_ n9_ n10_ n11_ n12_
            have hHeld : w12.cell? ⟨gb172, 0, none⟩ = some (.int .i64 a0_0) ∧ w12.cell? ⟨gb172, 1, none⟩ = some (.slice A0_1 l0_1.length c0_1) ∧ w12.cell? ⟨gb173, 0, none⟩ = some (.int .i64 a1_0) ∧ w12.cell? ⟨gb173, 1, none⟩ = some (.int .i64 a1_1) ∧ w12.cell? ⟨gb173, 2, none⟩ = some (.int .i64 a1_2) ∧ w12.cell? ⟨gb173, 3, none⟩ = some (.int .i64 a1_3) := hS_
            refine norm_ (a' := ?_) ?_ ?_
            rotate_left
            ·simp only [putAll, Act.put, List.setIfInBounds_toArray, List.set_cons_zero, List.set_cons_succ]
             rfl
            refine two_ (i := 4) (j := 6) (Ni := some 11) (Nj := some 13) #[true, true, true, true, true, true, false, false, false, true, false] #[true, true, true, true, false, true, true, false, false, true, false] rfl rfl rfl rfl (two_of HT_.out (by kernel_rfl)) (by decide) (by decide) (fun K hK => ?_) (fun K hK => ?_)
            ·skip
             refine goes_ Try.func24 (by kernel_rfl) rfl #[.slice A0_1 l0_1.length c0_1] (by rfl) rfl rfl (by (try simp only [List.map_toArray, List.map_cons, List.map_nil]); first | done | rfl | (simp only [List.length_drop, List.length_take]; rfl)) ?_
             with_reducible refine (impl_Clue_24.calls _ _ l0_1 t175 _ ?side1 ?side2 A3.out).mono ?_
             (case side1 => repeat (first | exact (Kd.C_below HR0_1.out HB.out) | (with_reducible refine Kd.C_alloc ?_ _) | (with_reducible refine Kd.C_drewN ?_ _) | (with_reducible refine Kd.C_drew ?_)))
             (case side2 => exact HC0_1.out)
             rintro e w13 ⟨v176, rfl, ho0, hb⟩
             refine ⟨_, rfl, ?_⟩
             have HO177 := Aside0.mk (Kd.R_lower (Kd.R_newB ho0 (g := gb173) (o := .cells #[.int .i64 a1_0, .int .i64 a1_1, .int .i64 a1_2, .int .i64 a1_3] 37 (0, 0)) (pk BK173)) (below_size bw))
             replace BK172 := nk BK172 hb
             replace BK173 := nk BK173 hb
             replace BK174 := nk BK174 hb
             replace BK184 := nk BK184 hb
             replace HB := bs hb
             (try clear hb)
             (try clear ho0)
             refine hK.out _ _ ⟨ec BK172, ec BK172, ec BK173, ec BK173, ec BK173, ec BK173⟩ (fun hHeld => ?_)
             clear hK K
             refine nm (some 11) ?_
             exact norm_ (by first | (simp only [putAll, Act.put, List.setIfInBounds_toArray, List.set_cons_zero, List.set_cons_succ]; done) | (simp only [putAll, Act.put, List.setIfInBounds_toArray, List.set_cons_zero, List.set_cons_succ]; rfl)) (hJ4_9 (v176, gb184) _ ⟨hHeld, (by (with_reducible repeat (first | apply Kd.R_alloc | apply Kd.R_drewN | apply Kd.R_drew)); exact Kd.R_mono HO177.out (fun _ hk => hk.2)), (pk BK172), (pk BK173), (pk BK174), (pk BK184), GW184.out, GE184.out, NB172_184.out, NB184_172.out, NB173_184.out, NB184_173.out, NB174_184.out, NB184_174.out, bw⟩)
            ·skip
             refine Kd.R_lit_step k37 _ 37 ?hg (N := 13) ?hd (xs := ([(⟨a1_0, a1_1, a1_2, a1_3⟩ : S37)] : List (S37))) (inner := [.int .i64 a1_0, .int .i64 a1_1, .int .i64 a1_2, .int .i64 a1_3]) (ok := fun _ => True) (okp := fun _ => True) ?hr ?hp (fun _ hk => hk) trivial (Below.refl _ _) (Nat.le_refl _) (by simp) ?_; (case hd => rfl); (case hg => rfl); (case hr => first | (go_simp; done) | (go_simp; rfl)); (case hp => exact (Reps.c4 (show Kd.M k37 _ _ _ (⟨a1_0, a1_1, a1_2, a1_3⟩ : S37) [.int .i64 a1_0, .int .i64 a1_1, .int .i64 a1_2, .int .i64 a1_3] from (k37_mkM _ _ _ (⟨a1_0, a1_1, a1_2, a1_3⟩ : S37) )) (Reps.none _ _)))
             intro v179 w13 ho14 hb hg_ hnew_
             clear hg_ hnew_
             (first | rw [← Ny178.out] at ho14 | (simp only [Int.reduceToNat] at ho14; rw [← Ny178.out] at ho14))
             have HO180 := Aside0.mk (Kd.R_lower (Kd.R_newB ho14 (g := gb173) (o := .cells #[.int .i64 a1_0, .int .i64 a1_1, .int .i64 a1_2, .int .i64 a1_3] 37 (0, 0)) (pk BK173)) (below_size bw))
             replace BK172 := nk BK172 hb
             replace BK173 := nk BK173 hb
             replace BK174 := nk BK174 hb
             replace BK184 := nk BK184 hb
             replace HB := bs hb
             clear hb ho14
             refine hK.out _ _ ⟨ec BK172, ec BK172, ec BK173, ec BK173, ec BK173, ec BK173⟩ (fun hHeld => ?_)
             clear hK K
             refine nm (some 13) ?_
             exact norm_ (by first | (simp only [putAll, Act.put, List.setIfInBounds_toArray, List.set_cons_zero, List.set_cons_succ]; done) | (simp only [putAll, Act.put, List.setIfInBounds_toArray, List.set_cons_zero, List.set_cons_succ]; rfl)) (hJ6_9 (v179, gb184) _ ⟨hHeld, (by (with_reducible repeat (first | apply Kd.R_alloc | apply Kd.R_drewN | apply Kd.R_drew)); exact Kd.R_mono HO180.out (fun _ hk => hk.2)), (pk BK172), (pk BK173), (pk BK174), (pk BK184), GW184.out, GE184.out, NB172_184.out, NB184_172.out, NB173_184.out, NB184_173.out, NB174_184.out, NB184_174.out, bw⟩)
          ·skip
           rintro v179 w13 ⟨hS_, h0_, h1_, h2_, h3_, h4_⟩
           have n0_ : Aside0 (Kd.R k37 37 w13 w.heap.size (fun k_ => k_ ≠ gb173) v179 y178) := ⟨h0_⟩
           have n1_ : Aside0 (w13.heap[gb172]? = some (.cells #[.int .i64 a0_0, .slice A0_1 l0_1.length c0_1] 29 (0, 0))) := ⟨h1_⟩
           have n2_ : Aside0 (w13.heap[gb173]? = some (.cells #[.int .i64 a1_0, .int .i64 a1_1, .int .i64 a1_2, .int .i64 a1_3] 37 (0, 0))) := ⟨h2_⟩
           have n3_ : Aside0 (w13.heap[gb174]? = some (.cells #[.int .i64 0, .slice none 0 0] 29 (0, 0))) := ⟨h3_⟩
           have n4_ : Aside0 (Below w.heap.size w w13) := ⟨h4_⟩
           clear BK172
           clear BK173
           clear BK174
           clear HB
           clear h0_ h1_ h2_ h3_ h4_
           have HO180 := n0_
           have BK172 := n1_
           have BK173 := n2_
           have BK174 := n3_
           have HB := n4_
           clear n0_ n1_ n2_ n3_ n4_
           have hHeld : w13.cell? ⟨gb172, 0, none⟩ = some (.int .i64 a0_0) ∧ w13.cell? ⟨gb172, 1, none⟩ = some (.slice A0_1 l0_1.length c0_1) ∧ w13.cell? ⟨gb173, 0, none⟩ = some (.int .i64 a1_0) ∧ w13.cell? ⟨gb173, 1, none⟩ = some (.int .i64 a1_1) ∧ w13.cell? ⟨gb173, 2, none⟩ = some (.int .i64 a1_2) ∧ w13.cell? ⟨gb173, 3, none⟩ = some (.int .i64 a1_3) := hS_
           refine norm_ (a' := ?_) ?_ ?_
           rotate_left
           ·simp only [putAll, Act.put, List.setIfInBounds_toArray, List.set_cons_zero, List.set_cons_succ]
            rfl
           refine two_ (i := 4) (j := 9) (Ni := some 11) (Nj := some 6) #[true, true, true, true, true, true, true, false, false, false, false] #[true, true, true, true, false, true, true, false, false, true, false] rfl rfl rfl rfl (two_of HT_.out (by kernel_rfl)) (by decide) (by decide) (fun K hK => ?_) (fun K hK => ?_)
           ·skip
            refine goes_ Try.func24 (by kernel_rfl) rfl #[.slice A0_1 l0_1.length c0_1] (by rfl) rfl rfl (by (try simp only [List.map_toArray, List.map_cons, List.map_nil]); first | done | rfl | (simp only [List.length_drop, List.length_take]; rfl)) ?_
            with_reducible refine (impl_Clue_24.calls _ _ l0_1 t175 _ ?side1 ?side2 A3.out).mono ?_
            (case side1 => repeat (first | exact (Kd.C_below HR0_1.out HB.out) | (with_reducible refine Kd.C_alloc ?_ _) | (with_reducible refine Kd.C_drewN ?_ _) | (with_reducible refine Kd.C_drew ?_)))
            (case side2 => exact HC0_1.out)
            rintro e w14 ⟨v176, rfl, ho0, hb⟩
            refine ⟨_, rfl, ?_⟩
            have HO177 := Aside0.mk (Kd.R_lower (Kd.R_newB (Kd.R_new' ho0 (Kd.R_lt (pr HO180))) (g := gb173) (o := .cells #[.int .i64 a1_0, .int .i64 a1_1, .int .i64 a1_2, .int .i64 a1_3] 37 (0, 0)) (pk BK173)) (below_size bw))
            replace HO180 := Aside0.mk (Kd.R_elder' (pr HO180) (Kd.R_base ho0) hb)
            replace BK172 := nk BK172 hb
            replace BK173 := nk BK173 hb
            replace BK174 := nk BK174 hb
            replace HB := bs hb
            (try clear hb)
            (try clear ho0)
            refine hK.out _ _ ⟨ec BK172, ec BK172, ec BK173, ec BK173, ec BK173, ec BK173⟩ (fun hHeld => ?_)
            clear hK K
            refine nm (some 11) ?_
            exact norm_ (by first | (simp only [putAll, Act.put, List.setIfInBounds_toArray, List.set_cons_zero, List.set_cons_succ]; done) | (simp only [putAll, Act.put, List.setIfInBounds_toArray, List.set_cons_zero, List.set_cons_succ]; rfl)) (hJ4_6 (v176, v179) _ ⟨hHeld, (by (with_reducible repeat (first | apply Kd.R_alloc | apply Kd.R_drewN | apply Kd.R_drew)); exact Kd.R_mono HO177.out (fun _ hk => ⟨hk.1.2, hk.2⟩)), (by (with_reducible repeat (first | apply Kd.R_alloc | apply Kd.R_drewN | apply Kd.R_drew)); exact Kd.R_mono HO180.out (fun _ hk => ⟨hk.2, hk.1⟩)), (pk BK172), (pk BK173), (pk BK174), bw⟩)
           ·skip
            refine box_step ?hg (N := 6) ?hd (cs := #[.int .i64 0, .slice none 0 0]) (t := 29) ?hr ?_; (case hd => rfl); (case hg => rfl); (case hr => first | (go_simp; done) | (go_simp; rfl))
            intro gb184 hg w14 hbox hb
            replace HO180 := Aside0.mk (Kd.R_below (pr HO180) hb)
            have BK184 := Aside0.mk (hbox)
            have GW184 := gs hg
            have GE184 := gs hg
            replace HB := bs hb
            have NB172_184 := nl BK172 hg
            have NB184_172 := ng BK172 hg
            replace BK172 := nk BK172 hb
            have NB173_184 := nl BK173 hg
            have NB184_173 := ng BK173 hg
            replace BK173 := nk BK173 hb
            have NB174_184 := nl BK174 hg
            have NB184_174 := ng BK174 hg
            replace BK174 := nk BK174 hb
            clear hb hbox hg
            refine hK.out _ _ ⟨ec BK172, ec BK172, ec BK173, ec BK173, ec BK173, ec BK173⟩ (fun hHeld => ?_)
            clear hK K
            refine nm (some 6) ?_
            exact norm_ (by first | (simp only [putAll, Act.put, List.setIfInBounds_toArray, List.set_cons_zero, List.set_cons_succ]; done) | (simp only [putAll, Act.put, List.setIfInBounds_toArray, List.set_cons_zero, List.set_cons_succ]; rfl)) (hJ6_9 (v179, gb184) _ ⟨hHeld, (pr HO180), (pk BK172), (pk BK173), (pk BK174), (pk BK184), GW184.out, GE184.out, NB172_184.out, NB184_172.out, NB173_184.out, NB184_173.out, NB174_184.out, NB184_174.out, bw⟩)
         ·skip
          rintro v176 w12 ⟨hS_, h0_, h1_, h2_, h3_, h4_⟩
          have n0_ : Aside0 (Kd.R k37 37 w12 w.heap.size (fun k_ => k_ ≠ gb173) v176 t175) := ⟨h0_⟩
          have n1_ : Aside0 (w12.heap[gb172]? = some (.cells #[.int .i64 a0_0, .slice A0_1 l0_1.length c0_1] 29 (0, 0))) := ⟨h1_⟩
          have n2_ : Aside0 (w12.heap[gb173]? = some (.cells #[.int .i64 a1_0, .int .i64 a1_1, .int .i64 a1_2, .int .i64 a1_3] 37 (0, 0))) := ⟨h2_⟩
          have n3_ : Aside0 (w12.heap[gb174]? = some (.cells #[.int .i64 0, .slice none 0 0] 29 (0, 0))) := ⟨h3_⟩
          have n4_ : Aside0 (Below w.heap.size w w12) := ⟨h4_⟩
          clear BK172
          clear BK173
          clear BK174
          clear HB
          clear h0_ h1_ h2_ h3_ h4_
          have HO177 := n0_
          have BK172 := n1_
          have BK173 := n2_
          have BK174 := n3_
          have HB := n4_
          clear n0_ n1_ n2_ n3_ n4_
          have hHeld : w12.cell? ⟨gb172, 0, none⟩ = some (.int .i64 a0_0) ∧ w12.cell? ⟨gb172, 1, none⟩ = some (.slice A0_1 l0_1.length c0_1) ∧ w12.cell? ⟨gb173, 0, none⟩ = some (.int .i64 a1_0) ∧ w12.cell? ⟨gb173, 1, none⟩ = some (.int .i64 a1_1) ∧ w12.cell? ⟨gb173, 2, none⟩ = some (.int .i64 a1_2) ∧ w12.cell? ⟨gb173, 3, none⟩ = some (.int .i64 a1_3) := hS_
          refine norm_ (a' := ?_) ?_ ?_
          rotate_left
          ·simp only [putAll, Act.put, List.setIfInBounds_toArray, List.set_cons_zero, List.set_cons_succ]
           rfl
          refine two_ (i := 6) (j := 9) (Ni := some 13) (Nj := some 6) #[true, true, true, true, true, true, true, false, false, false, false] #[true, true, true, true, true, true, false, false, false, true, false] rfl rfl rfl rfl (two_of HT_.out (by kernel_rfl)) (by decide) (by decide) (fun K hK => ?_) (fun K hK => ?_)
          ·skip
           refine Kd.R_lit_step k37 _ 37 ?hg (N := 13) ?hd (xs := ([(⟨a1_0, a1_1, a1_2, a1_3⟩ : S37)] : List (S37))) (inner := [.int .i64 a1_0, .int .i64 a1_1, .int .i64 a1_2, .int .i64 a1_3]) (ok := fun _ => True) (okp := fun _ => True) ?hr ?hp (fun _ hk => hk) trivial (Below.refl _ _) (Nat.le_refl _) (by simp) ?_; (case hd => rfl); (case hg => rfl); (case hr => first | (go_simp; done) | (go_simp; rfl)); (case hp => exact (Reps.c4 (show Kd.M k37 _ _ _ (⟨a1_0, a1_1, a1_2, a1_3⟩ : S37) [.int .i64 a1_0, .int .i64 a1_1, .int .i64 a1_2, .int .i64 a1_3] from (k37_mkM _ _ _ (⟨a1_0, a1_1, a1_2, a1_3⟩ : S37) )) (Reps.none _ _)))
           intro v179 w13 ho14 hb hg_ hnew_
           clear hg_ hnew_
           (first | rw [← Ny178.out] at ho14 | (simp only [Int.reduceToNat] at ho14; rw [← Ny178.out] at ho14))
           have HO180 := Aside0.mk (Kd.R_lower (Kd.R_newB (Kd.R_new' ho14 (Kd.R_lt (pr HO177))) (g := gb173) (o := .cells #[.int .i64 a1_0, .int .i64 a1_1, .int .i64 a1_2, .int .i64 a1_3] 37 (0, 0)) (pk BK173)) (below_size bw))
           replace HO177 := Aside0.mk (Kd.R_elder' (pr HO177) (Kd.R_base ho14) hb)
           replace BK172 := nk BK172 hb
           replace BK173 := nk BK173 hb
           replace BK174 := nk BK174 hb
           replace HB := bs hb
           clear hb ho14
           refine hK.out _ _ ⟨ec BK172, ec BK172, ec BK173, ec BK173, ec BK173, ec BK173⟩ (fun hHeld => ?_)
           clear hK K
           refine nm (some 13) ?_
           exact norm_ (by first | (simp only [putAll, Act.put, List.setIfInBounds_toArray, List.set_cons_zero, List.set_cons_succ]; done) | (simp only [putAll, Act.put, List.setIfInBounds_toArray, List.set_cons_zero, List.set_cons_succ]; rfl)) (hJ4_6 (v176, v179) _ ⟨hHeld, (by (with_reducible repeat (first | apply Kd.R_alloc | apply Kd.R_drewN | apply Kd.R_drew)); exact Kd.R_mono HO177.out (fun _ hk => ⟨hk.2, hk.1⟩)), (by (with_reducible repeat (first | apply Kd.R_alloc | apply Kd.R_drewN | apply Kd.R_drew)); exact Kd.R_mono HO180.out (fun _ hk => ⟨hk.1.2, hk.2⟩)), (pk BK172), (pk BK173), (pk BK174), bw⟩)
          ·skip
           refine box_step ?hg (N := 6) ?hd (cs := #[.int .i64 0, .slice none 0 0]) (t := 29) ?hr ?_; (case hd => rfl); (case hg => rfl); (case hr => first | (go_simp; done) | (go_simp; rfl))
           intro gb184 hg w13 hbox hb
           replace HO177 := Aside0.mk (Kd.R_below (pr HO177) hb)
           have BK184 := Aside0.mk (hbox)
           have GW184 := gs hg
           have GE184 := gs hg
           replace HB := bs hb
           have NB172_184 := nl BK172 hg
           have NB184_172 := ng BK172 hg
           replace BK172 := nk BK172 hb
           have NB173_184 := nl BK173 hg
           have NB184_173 := ng BK173 hg
           replace BK173 := nk BK173 hb
           have NB174_184 := nl BK174 hg
           have NB184_174 := ng BK174 hg
           replace BK174 := nk BK174 hb
           clear hb hbox hg
           refine hK.out _ _ ⟨ec BK172, ec BK172, ec BK173, ec BK173, ec BK173, ec BK173⟩ (fun hHeld => ?_)
           clear hK K
           refine nm (some 6) ?_
           exact norm_ (by first | (simp only [putAll, Act.put, List.setIfInBounds_toArray, List.set_cons_zero, List.set_cons_succ]; done) | (simp only [putAll, Act.put, List.setIfInBounds_toArray, List.set_cons_zero, List.set_cons_succ]; rfl)) (hJ4_9 (v176, gb184) _ ⟨hHeld, (pr HO177), (pk BK172), (pk BK173), (pk BK174), (pk BK184), GW184.out, GE184.out, NB172_184.out, NB184_172.out, NB173_184.out, NB184_173.out, NB174_184.out, NB184_174.out, bw⟩)
        ·skip
         rintro ⟨v179, gb184⟩ w14 ⟨hS_, h0_, h1_, h2_, h3_, h4_, h5_, h6_, h7_, h8_, h9_, h10_, h11_, h12_, h13_⟩
         have n0_ : Aside0 (Kd.R k37 37 w14 w.heap.size (fun k_ => k_ ≠ gb173) v179 y178) := ⟨h0_⟩
         have n1_ : Aside0 (w14.heap[gb172]? = some (.cells #[.int .i64 a0_0, .slice A0_1 l0_1.length c0_1] 29 (0, 0))) := ⟨h1_⟩
         have n2_ : Aside0 (w14.heap[gb173]? = some (.cells #[.int .i64 a1_0, .int .i64 a1_1, .int .i64 a1_2, .int .i64 a1_3] 37 (0, 0))) := ⟨h2_⟩
         have n3_ : Aside0 (w14.heap[gb174]? = some (.cells #[.int .i64 0, .slice none 0 0] 29 (0, 0))) := ⟨h3_⟩
         have n4_ : Aside0 (w14.heap[gb184]? = some (.cells #[.int .i64 0, .slice none 0 0] 29 (0, 0))) := ⟨h4_⟩
         have n5_ : Aside0 (w.heap.size ≤ gb184) := ⟨h5_⟩
         have n6_ : Aside0 (w.heap.size ≤ gb184) := ⟨h6_⟩
         have n7_ : Aside0 (gb172 ≠ gb184) := ⟨h7_⟩
         have n8_ : Aside0 (gb184 ≠ gb172) := ⟨h8_⟩
         have n9_ : Aside0 (gb173 ≠ gb184) := ⟨h9_⟩
         have n10_ : Aside0 (gb184 ≠ gb173) := ⟨h10_⟩
         have n11_ : Aside0 (gb174 ≠ gb184) := ⟨h11_⟩
         have n12_ : Aside0 (gb184 ≠ gb174) := ⟨h12_⟩
         have n13_ : Aside0 (Below w.heap.size w w14) := ⟨h13_⟩
         clear BK172
         clear BK173
         clear BK174
         clear HB
         clear h0_ h1_ h2_ h3_ h4_ h5_ h6_ h7_ h8_ h9_ h10_ h11_ h12_ h13_
         have HO180 := n0_
         have BK172 := n1_
         have BK173 := n2_
         have BK174 := n3_
         have BK184 := n4_
         have GW184 := n5_
         have GE184 := n6_
         have NB172_184 := n7_
         have NB184_172 := n8_
         have NB173_184 := n9_
         have NB184_173 := n10_
         have NB174_184 := n11_
         have NB184_174 := n12_
         have HB := n13_
         clear n0_ n1_ n2_ n3_ n4_ n5_ n6_ n7_ n8_ n9_ n10_ n11_ n12_ n13_
         have hHeld : w14.cell? ⟨gb172, 0, none⟩ = some (.int .i64 a0_0) ∧ w14.cell? ⟨gb172, 1, none⟩ = some (.slice A0_1 l0_1.length c0_1) ∧ w14.cell? ⟨gb173, 0, none⟩ = some (.int .i64 a1_0) ∧ w14.cell? ⟨gb173, 1, none⟩ = some (.int .i64 a1_1) ∧ w14.cell? ⟨gb173, 2, none⟩ = some (.int .i64 a1_2) ∧ w14.cell? ⟨gb173, 3, none⟩ = some (.int .i64 a1_3) := hS_
         refine norm_ (a' := ?_) ?_ ?_
         rotate_left
         ·simp only [putAll, Act.put, List.setIfInBounds_toArray, List.set_cons_zero, List.set_cons_succ]
          rfl
         refine one_ (i := 4) (N := some 11) #[true, true, true, true, true, true, true, false, false, true, false] rfl rfl (one_of HT_.out (by kernel_rfl)) (by decide) (fun K hK => ?_)
         refine goes_ Try.func24 (by kernel_rfl) rfl #[.slice A0_1 l0_1.length c0_1] (by rfl) rfl rfl (by (try simp only [List.map_toArray, List.map_cons, List.map_nil]); first | done | rfl | (simp only [List.length_drop, List.length_take]; rfl)) ?_
         with_reducible refine (impl_Clue_24.calls _ _ l0_1 t175 _ ?side1 ?side2 A3.out).mono ?_
         (case side1 => repeat (first | exact (Kd.C_below HR0_1.out HB.out) | (with_reducible refine Kd.C_alloc ?_ _) | (with_reducible refine Kd.C_drewN ?_ _) | (with_reducible refine Kd.C_drew ?_)))
         (case side2 => exact HC0_1.out)
         rintro e w15 ⟨v176, rfl, ho0, hb⟩
         refine ⟨_, rfl, ?_⟩
         have HO177 := Aside0.mk (Kd.R_lower (Kd.R_newB (Kd.R_new' ho0 (Kd.R_lt (pr HO180))) (g := gb173) (o := .cells #[.int .i64 a1_0, .int .i64 a1_1, .int .i64 a1_2, .int .i64 a1_3] 37 (0, 0)) (pk BK173)) (below_size bw))
         replace HO180 := Aside0.mk (Kd.R_elder' (pr HO180) (Kd.R_base ho0) hb)
         replace BK172 := nk BK172 hb
         replace BK173 := nk BK173 hb
         replace BK174 := nk BK174 hb
         replace BK184 := nk BK184 hb
         replace HB := bs hb
         (try clear hb)
         (try clear ho0)
         refine hK.out _ _ ⟨ec BK172, ec BK172, ec BK173, ec BK173, ec BK173, ec BK173⟩ (fun hHeld => ?_)
         clear hK K
         refine nm (some 11) ?_
         exact norm_ (by first | (simp only [putAll, Act.put, List.setIfInBounds_toArray, List.set_cons_zero, List.set_cons_succ]; done) | (simp only [putAll, Act.put, List.setIfInBounds_toArray, List.set_cons_zero, List.set_cons_succ]; rfl)) (hJ4_6_9 (v176, v179, gb184) _ ⟨hHeld, (by (with_reducible repeat (first | apply Kd.R_alloc | apply Kd.R_drewN | apply Kd.R_drew)); exact Kd.R_mono HO177.out (fun _ hk => ⟨hk.1.2, hk.2⟩)), (by (with_reducible repeat (first | apply Kd.R_alloc | apply Kd.R_drewN | apply Kd.R_drew)); exact Kd.R_mono HO180.out (fun _ hk => ⟨hk.2, hk.1⟩)), (pk BK172), (pk BK173), (pk BK174), (pk BK184), GW184.out, GE184.out, NB172_184.out, NB184_172.out, NB173_184.out, NB184_173.out, NB174_184.out, NB184_174.out, bw⟩)
       ·skip
        rintro ⟨v176, gb184⟩ w13 ⟨hS_, h0_, h1_, h2_, h3_, h4_, h5_, h6_, h7_, h8_, h9_, h10_, h11_, h12_, h13_⟩
        have n0_ : Aside0 (Kd.R k37 37 w13 w.heap.size (fun k_ => k_ ≠ gb173) v176 t175) := ⟨h0_⟩
        have n1_ : Aside0 (w13.heap[gb172]? = some (.cells #[.int .i64 a0_0, .slice A0_1 l0_1.length c0_1] 29 (0, 0))) := ⟨h1_⟩
        have n2_ : Aside0 (w13.heap[gb173]? = some (.cells #[.int .i64 a1_0, .int .i64 a1_1, .int .i64 a1_2, .int .i64 a1_3] 37 (0, 0))) := ⟨h2_⟩
        have n3_ : Aside0 (w13.heap[gb174]? = some (.cells #[.int .i64 0, .slice none 0 0] 29 (0, 0))) := ⟨h3_⟩
        have n4_ : Aside0 (w13.heap[gb184]? = some (.cells #[.int .i64 0, .slice none 0 0] 29 (0, 0))) := ⟨h4_⟩
        have n5_ : Aside0 (w.heap.size ≤ gb184) := ⟨h5_⟩
        have n6_ : Aside0 (w.heap.size ≤ gb184) := ⟨h6_⟩
        have n7_ : Aside0 (gb172 ≠ gb184) := ⟨h7_⟩
        have n8_ : Aside0 (gb184 ≠ gb172) := ⟨h8_⟩
        have n9_ : Aside0 (gb173 ≠ gb184) := ⟨h9_⟩
        have n10_ : Aside0 (gb184 ≠ gb173) := ⟨h10_⟩
        have n11_ : Aside0 (gb174 ≠ gb184) := ⟨h11_⟩
        have n12_ : Aside0 (gb184 ≠ gb174) := ⟨h12_⟩
        have n13_ : Aside0 (Below w.heap.size w w13) := ⟨h13_⟩
        clear BK172
        clear BK173
        clear BK174
        clear HB
        clear h0_ h1_ h2_ h3_ h4_ h5_ h6_ h7_ h8_ h9_ h10_ h11_ h12_ h13_
        have HO177 := n0_
        have BK172 := n1_
        have BK173 := n2_
        have BK174 := n3_
        have BK184 := n4_
        have GW184 := n5_
        have GE184 := n6_
        have NB172_184 := n7_
        have NB184_172 := n8_
        have NB173_184 := n9_
        have NB184_173 := n10_
        have NB174_184 := n11_
        have NB184_174 := n12_
        have HB := n13_
        clear n0_ n1_ n2_ n3_ n4_ n5_ n6_ n7_ n8_ n9_ n10_ n11_ n12_ n13_
        have hHeld : w13.cell? ⟨gb172, 0, none⟩ = some (.int .i64 a0_0) ∧ w13.cell? ⟨gb172, 1, none⟩ = some (.slice A0_1 l0_1.length c0_1) ∧ w13.cell? ⟨gb173, 0, none⟩ = some (.int .i64 a1_0) ∧ w13.cell? ⟨gb173, 1, none⟩ = some (.int .i64 a1_1) ∧ w13.cell? ⟨gb173, 2, none⟩ = some (.int .i64 a1_2) ∧ w13.cell? ⟨gb173, 3, none⟩ = some (.int .i64 a1_3) := hS_
        refine norm_ (a' := ?_) ?_ ?_
        rotate_left
        ·simp only [putAll, Act.put, List.setIfInBounds_toArray, List.set_cons_zero, List.set_cons_succ]
         rfl
        refine one_ (i := 6) (N := some 13) #[true, true, true, true, true, true, true, false, false, true, false] rfl rfl (one_of HT_.out (by kernel_rfl)) (by decide) (fun K hK => ?_)
        refine Kd.R_lit_step k37 _ 37 ?hg (N := 13) ?hd (xs := ([(⟨a1_0, a1_1, a1_2, a1_3⟩ : S37)] : List (S37))) (inner := [.int .i64 a1_0, .int .i64 a1_1, .int .i64 a1_2, .int .i64 a1_3]) (ok := fun _ => True) (okp := fun _ => True) ?hr ?hp (fun _ hk => hk) trivial (Below.refl _ _) (Nat.le_refl _) (by simp) ?_; (case hd => rfl); (case hg => rfl); (case hr => first | (go_simp; done) | (go_simp; rfl)); (case hp => exact (Reps.c4 (show Kd.M k37 _ _ _ (⟨a1_0, a1_1, a1_2, a1_3⟩ : S37) [.int .i64 a1_0, .int .i64 a1_1, .int .i64 a1_2, .int .i64 a1_3] from (k37_mkM _ _ _ (⟨a1_0, a1_1, a1_2, a1_3⟩ : S37) )) (Reps.none _ _)))
        intro v179 w14 ho15 hb hg_ hnew_
        clear hg_ hnew_
        (first | rw [← Ny178.out] at ho15 | (simp only [Int.reduceToNat] at ho15; rw [← Ny178.out] at ho15))
        have HO180 := Aside0.mk (Kd.R_lower (Kd.R_newB (Kd.R_new' ho15 (Kd.R_lt (pr HO177))) (g := gb173) (o := .cells #[.int .i64 a1_0, .int .i64 a1_1, .int .i64 a1_2, .int .i64 a1_3] 37 (0, 0)) (pk BK173)) (below_size bw))
        replace HO177 := Aside0.mk (Kd.R_elder' (pr HO177) (Kd.R_base ho15) hb)
        replace BK172 := nk BK172 hb
        replace BK173 := nk BK173 hb
        replace BK174 := nk BK174 hb
        replace BK184 := nk BK184 hb
        replace HB := bs hb
        clear hb ho15
        refine hK.out _ _ ⟨ec BK172, ec BK172, ec BK173, ec BK173, ec BK173, ec BK173⟩ (fun hHeld => ?_)
        clear hK K
        refine nm (some 13) ?_
        exact norm_ (by first | (simp only [putAll, Act.put, List.setIfInBounds_toArray, List.set_cons_zero, List.set_cons_succ]; done) | (simp only [putAll, Act.put, List.setIfInBounds_toArray, List.set_cons_zero, List.set_cons_succ]; rfl)) (hJ4_6_9 (v176, v179, gb184) _ ⟨hHeld, (by (with_reducible repeat (first | apply Kd.R_alloc | apply Kd.R_drewN | apply Kd.R_drew)); exact Kd.R_mono HO177.out (fun _ hk => ⟨hk.2, hk.1⟩)), (by (with_reducible repeat (first | apply Kd.R_alloc | apply Kd.R_drewN | apply Kd.R_drew)); exact Kd.R_mono HO180.out (fun _ hk => ⟨hk.1.2, hk.2⟩)), (pk BK172), (pk BK173), (pk BK174), (pk BK184), GW184.out, GE184.out, NB172_184.out, NB184_172.out, NB173_184.out, NB184_173.out, NB174_184.out, NB184_174.out, bw⟩)
      ·skip
       rintro ⟨v176, v179⟩ w14 ⟨hS_, h0_, h1_, h2_, h3_, h4_, h5_⟩
       have n0_ : Aside0 (Kd.R k37 37 w14 w.heap.size (fun k_ => some k_ ≠ (v179 : Value).ownBlock ∧ k_ ≠ gb173) v176 t175) := ⟨h0_⟩
       have n1_ : Aside0 (Kd.R k37 37 w14 w.heap.size (fun k_ => some k_ ≠ (v176 : Value).ownBlock ∧ k_ ≠ gb173) v179 y178) := ⟨h1_⟩
       have n2_ : Aside0 (w14.heap[gb172]? = some (.cells #[.int .i64 a0_0, .slice A0_1 l0_1.length c0_1] 29 (0, 0))) := ⟨h2_⟩
       have n3_ : Aside0 (w14.heap[gb173]? = some (.cells #[.int .i64 a1_0, .int .i64 a1_1, .int .i64 a1_2, .int .i64 a1_3] 37 (0, 0))) := ⟨h3_⟩
       have n4_ : Aside0 (w14.heap[gb174]? = some (.cells #[.int .i64 0, .slice none 0 0] 29 (0, 0))) := ⟨h4_⟩
       have n5_ : Aside0 (Below w.heap.size w w14) := ⟨h5_⟩
       clear BK172
       clear BK173
       clear BK174
       clear HB
       clear h0_ h1_ h2_ h3_ h4_ h5_
       have HO177 := n0_
       have HO180 := n1_
       have BK172 := n2_
       have BK173 := n3_
       have BK174 := n4_
       have HB := n5_
       clear n0_ n1_ n2_ n3_ n4_ n5_
       have hHeld : w14.cell? ⟨gb172, 0, none⟩ = some (.int .i64 a0_0) ∧ w14.cell? ⟨gb172, 1, none⟩ = some (.slice A0_1 l0_1.length c0_1) ∧ w14.cell? ⟨gb173, 0, none⟩ = some (.int .i64 a1_0) ∧ w14.cell? ⟨gb173, 1, none⟩ = some (.int .i64 a1_1) ∧ w14.cell? ⟨gb173, 2, none⟩ = some (.int .i64 a1_2) ∧ w14.cell? ⟨gb173, 3, none⟩ = some (.int .i64 a1_3) := hS_
       obtain ⟨Ao16, co16, eo16⟩ := Kd.R_slice HO180.out
       (first | subst eo16 | (injection eo16 with f1_ f2_ f3_; have f4_ := f1_.symm; have f5_ := f3_.symm; clear f1_ f2_ f3_; subst f4_; subst f5_))
       refine norm_ (a' := ?_) ?_ ?_
       rotate_left
       ·simp only [putAll, Act.put, List.setIfInBounds_toArray, List.set_cons_zero, List.set_cons_succ]
        rfl
       refine two_ (i := 7) (j := 9) (Ni := some 14) (Nj := some 6) #[true, true, true, true, true, true, true, true, false, false, false] #[true, true, true, true, true, true, true, false, false, true, false] rfl rfl rfl rfl (two_of HT_.out (by kernel_rfl)) (by decide) (by decide) (fun K hK => ?_) (fun K hK => ?_)
       ·skip
        refine Kd.R_append_rows_step k37 (w0 := w) w.heap.size (by rfl) (.tmp 11) (.tmp 13) 27 37 (.agg #[(.int .i64 0), (.int .i64 0), (.int .i64 0), (.int .i64 0)]) 32 rfl Try.underlying27 info37 rfl (by decide) (by omega) v176 t175 y178 _ _ _ (fun k_ => some k_ ≠ (.slice Ao16 y178.length co16 : Value).ownBlock ∧ k_ ≠ gb173) (fun _ => False) rfl rfl ?aO ?aR (fun _ _ h => h) (fun _ h => h.elim) ?aF ?aB ?aS ?aL ?_
        (case aR => repeat (first | exact (Kd.R_reads' HO180.out).2.2 | (with_reducible refine Kd.C_alloc ?_ _) | (with_reducible refine Kd.C_drewN ?_ _) | (with_reducible refine Kd.C_drew ?_)))
        (case aB => exact bw)
        (case aF => exact (fun k_ hk => ⟨Kd.fresh' (Kd.R_lt (pr HO180)) k_ hk, Kd.freshB (g := gb173) (o := .cells #[.int .i64 a1_0, .int .i64 a1_1, .int .i64 a1_2, .int .i64 a1_3] 37 (0, 0)) (pk BK173) k_ hk⟩))
        (case aO => exact (pr HO177))
        (case aS => exact (below_size bw))
        (case aL => have := LMc4.out; omega)
        intro v182 w15 ho hb hg hat
        rw [← Ny181.out] at ho
        have n0_ := Aside0.mk (blk_grown (pk BK172) hg (Kd.R_ne HO177.out BK172.out (by decide)))
        have n1_ := Aside0.mk (blk_grown (pk BK173) hg (Kd.R_away HO177.out (fun _ hk => hk.2)))
        have n2_ := Aside0.mk (blk_grown (pk BK174) hg (Kd.R_ne HO177.out BK174.out (by decide)))
        have n3_ := Aside0.mk (Kd.R_after (ok := (fun k_ => k_ ≠ gb173)) (by (with_reducible repeat (first | apply Kd.R_alloc | apply Kd.R_drewN | apply Kd.R_drew)); exact Kd.R_mono HO180.out (fun _ hk => ⟨hk.2, hk.1⟩)) hg hat)
        have n4_ := Aside0.mk (hb)
        have n5_ := Aside0.mk (ho)
        clear BK172
        clear BK173
        clear BK174
        clear HO180
        clear HB
        clear HO177
        have BK172 := n0_
        have BK173 := n1_
        have BK174 := n2_
        have HO180 := n3_
        have HB := n4_
        have HO183 := n5_
        clear n0_ n1_ n2_ n3_ n4_ n5_
        clear ho hb hg hat
        obtain ⟨Ao17, co17, eo17⟩ := Kd.R_slice HO183.out
        (first | subst eo17 | (injection eo17 with f1_ f2_ f3_; have f4_ := f1_.symm; have f5_ := f3_.symm; clear f1_ f2_ f3_; subst f4_; subst f5_))
        refine hK.out _ _ ⟨ec BK172, ec BK172, ec BK173, ec BK173, ec BK173, ec BK173⟩ (fun hHeld => ?_)
        clear hK K
        refine nm (some 14) ?_
        refine pu 8 (some 15) #[true, true, true, true, true, true, true, true, true, false, false] ?_
        exact norm_ (by first | (simp only [putAll, Act.put, List.setIfInBounds_toArray, List.set_cons_zero, List.set_cons_succ]; done) | (simp only [putAll, Act.put, List.setIfInBounds_toArray, List.set_cons_zero, List.set_cons_succ]; rfl)) (hJ4_6_7 (v176, .slice Ao16 y178.length co16, .slice Ao17 y181.length co17) _ ⟨hHeld, (by (with_reducible repeat (first | apply Kd.R_alloc | apply Kd.R_drewN | apply Kd.R_drew)); exact Kd.R_mono HO180.out (fun _ hk => ⟨hk.2, hk.1⟩)), (pr HO183), (pk BK172), (pk BK173), (pk BK174), bw⟩)
       ·skip
        refine box_step ?hg (N := 6) ?hd (cs := #[.int .i64 0, .slice none 0 0]) (t := 29) ?hr ?_; (case hd => rfl); (case hg => rfl); (case hr => first | (go_simp; done) | (go_simp; rfl))
        intro gb184 hg w15 hbox hb
        replace HO177 := Aside0.mk (Kd.R_below (pr HO177) hb)
        replace HO180 := Aside0.mk (Kd.R_below (pr HO180) hb)
        have BK184 := Aside0.mk (hbox)
        have GW184 := gs hg
        have GE184 := gs hg
        replace HB := bs hb
        have NB172_184 := nl BK172 hg
        have NB184_172 := ng BK172 hg
        replace BK172 := nk BK172 hb
        have NB173_184 := nl BK173 hg
        have NB184_173 := ng BK173 hg
        replace BK173 := nk BK173 hb
        have NB174_184 := nl BK174 hg
        have NB184_174 := ng BK174 hg
        replace BK174 := nk BK174 hb
        clear hb hbox hg
        refine hK.out _ _ ⟨ec BK172, ec BK172, ec BK173, ec BK173, ec BK173, ec BK173⟩ (fun hHeld => ?_)
        clear hK K
        refine nm (some 6) ?_
        exact norm_ (by first | (simp only [putAll, Act.put, List.setIfInBounds_toArray, List.set_cons_zero, List.set_cons_succ]; done) | (simp only [putAll, Act.put, List.setIfInBounds_toArray, List.set_cons_zero, List.set_cons_succ]; rfl)) (hJ4_6_9 (v176, .slice Ao16 y178.length co16, gb184) _ ⟨hHeld, (pr HO177), (pr HO180), (pk BK172), (pk BK173), (pk BK174), (pk BK184), GW184.out, GE184.out, NB172_184.out, NB184_172.out, NB173_184.out, NB184_173.out, NB174_184.out, NB184_174.out, bw⟩)
     ·skip
      rintro ⟨v176, v179, gb184⟩ w15 ⟨hS_, h0_, h1_, h2_, h3_, h4_, h5_, h6_, h7_, h8_, h9_, h10_, h11_, h12_, h13_, h14_⟩
      have n0_ : Aside0 (Kd.R k37 37 w15 w.heap.size (fun k_ => some k_ ≠ (v179 : Value).ownBlock ∧ k_ ≠ gb173) v176 t175) := ⟨h0_⟩
      have n1_ : Aside0 (Kd.R k37 37 w15 w.heap.size (fun k_ => some k_ ≠ (v176 : Value).ownBlock ∧ k_ ≠ gb173) v179 y178) := ⟨h1_⟩
      have n2_ : Aside0 (w15.heap[gb172]? = some (.cells #[.int .i64 a0_0, .slice A0_1 l0_1.length c0_1] 29 (0, 0))) := ⟨h2_⟩
      have n3_ : Aside0 (w15.heap[gb173]? = some (.cells #[.int .i64 a1_0, .int .i64 a1_1, .int .i64 a1_2, .int .i64 a1_3] 37 (0, 0))) := ⟨h3_⟩
      have n4_ : Aside0 (w15.heap[gb174]? = some (.cells #[.int .i64 0, .slice none 0 0] 29 (0, 0))) := ⟨h4_⟩
      have n5_ : Aside0 (w15.heap[gb184]? = some (.cells #[.int .i64 0, .slice none 0 0] 29 (0, 0))) := ⟨h5_⟩
      have n6_ : Aside0 (w.heap.size ≤ gb184) := ⟨h6_⟩
      have n7_ : Aside0 (w.heap.size ≤ gb184) := ⟨h7_⟩
      have n8_ : Aside0 (gb172 ≠ gb184) := ⟨h8_⟩
      have n9_ : Aside0 (gb184 ≠ gb172) := ⟨h9_⟩
      have n10_ : Aside0 (gb173 ≠ gb184) := ⟨h10_⟩
      have n11_ : Aside0 (gb184 ≠ gb173) := ⟨h11_⟩
      have n12_ : Aside0 (gb174 ≠ gb184) := ⟨h12_⟩
      have n13_ : Aside0 (gb184 ≠ gb174) := ⟨h13_⟩
      have n14_ : Aside0 (Below w.heap.size w w15) := ⟨h14_⟩
      clear BK172
      clear BK173
      clear BK174
      clear HB
      clear h0_ h1_ h2_ h3_ h4_ h5_ h6_ h7_ h8_ h9_ h10_ h11_ h12_ h13_ h14_
      have HO177 := n0_
      have HO180 := n1_
      have BK172 := n2_
      have BK173 := n3_
      have BK174 := n4_
      have BK184 := n5_
      have GW184 := n6_
      have GE184 := n7_
      have NB172_184 := n8_
      have NB184_172 := n9_
      have NB173_184 := n10_
      have NB184_173 := n11_
      have NB174_184 := n12_
      have NB184_174 := n13_
      have HB := n14_
      clear n0_ n1_ n2_ n3_ n4_ n5_ n6_ n7_ n8_ n9_ n10_ n11_ n12_ n13_ n14_
      have hHeld : w15.cell? ⟨gb172, 0, none⟩ = some (.int .i64 a0_0) ∧ w15.cell? ⟨gb172, 1, none⟩ = some (.slice A0_1 l0_1.length c0_1) ∧ w15.cell? ⟨gb173, 0, none⟩ = some (.int .i64 a1_0) ∧ w15.cell? ⟨gb173, 1, none⟩ = some (.int .i64 a1_1) ∧ w15.cell? ⟨gb173, 2, none⟩ = some (.int .i64 a1_2) ∧ w15.cell? ⟨gb173, 3, none⟩ = some (.int .i64 a1_3) := hS_
      obtain ⟨Ao17, co17, eo17⟩ := Kd.R_slice HO180.out
      (first | subst eo17 | (injection eo17 with f1_ f2_ f3_; have f4_ := f1_.symm; have f5_ := f3_.symm; clear f1_ f2_ f3_; subst f4_; subst f5_))
      refine norm_ (a' := ?_) ?_ ?_
      rotate_left
      ·simp only [putAll, Act.put, List.setIfInBounds_toArray, List.set_cons_zero, List.set_cons_succ]
       rfl
      refine one_ (i := 7) (N := some 14) #[true, true, true, true, true, true, true, true, false, true, false] rfl rfl (one_of HT_.out (by kernel_rfl)) (by decide) (fun K hK => ?_)
      refine Kd.R_append_rows_step k37 (w0 := w) w.heap.size (by rfl) (.tmp 11) (.tmp 13) 27 37 (.agg #[(.int .i64 0), (.int .i64 0), (.int .i64 0), (.int .i64 0)]) 32 rfl Try.underlying27 info37 rfl (by decide) (by omega) v176 t175 y178 _ _ _ (fun k_ => some k_ ≠ (.slice Ao17 y178.length co17 : Value).ownBlock ∧ k_ ≠ gb173) (fun _ => False) rfl rfl ?aO ?aR (fun _ _ h => h) (fun _ h => h.elim) ?aF ?aB ?aS ?aL ?_
      (case aR => repeat (first | exact (Kd.R_reads' HO180.out).2.2 | (with_reducible refine Kd.C_alloc ?_ _) | (with_reducible refine Kd.C_drewN ?_ _) | (with_reducible refine Kd.C_drew ?_)))
      (case aB => exact bw)
      (case aF => exact (fun k_ hk => ⟨Kd.fresh' (Kd.R_lt (pr HO180)) k_ hk, Kd.freshB (g := gb173) (o := .cells #[.int .i64 a1_0, .int .i64 a1_1, .int .i64 a1_2, .int .i64 a1_3] 37 (0, 0)) (pk BK173) k_ hk⟩))
      (case aO => exact (pr HO177))
      (case aS => exact (below_size bw))
      (case aL => have := LMc4.out; omega)
      intro v182 w16 ho hb hg hat
      rw [← Ny181.out] at ho
      have n0_ := Aside0.mk (blk_grown (pk BK172) hg (Kd.R_ne HO177.out BK172.out (by decide)))
      have n1_ := Aside0.mk (blk_grown (pk BK173) hg (Kd.R_away HO177.out (fun _ hk => hk.2)))
      have n2_ := Aside0.mk (blk_grown (pk BK174) hg (Kd.R_ne HO177.out BK174.out (by decide)))
      have n3_ := Aside0.mk (Kd.R_after (ok := (fun k_ => k_ ≠ gb173)) (by (with_reducible repeat (first | apply Kd.R_alloc | apply Kd.R_drewN | apply Kd.R_drew)); exact Kd.R_mono HO180.out (fun _ hk => ⟨hk.2, hk.1⟩)) hg hat)
      have n4_ := Aside0.mk (blk_grown (pk BK184) hg (Kd.R_ne HO177.out BK184.out (by decide)))
      have n5_ := Aside0.mk (hb)
      have n6_ := Aside0.mk (ho)
      clear BK172
      clear BK173
      clear BK174
      clear HO180
      clear BK184
      clear HB
      clear HO177
      have BK172 := n0_
      have BK173 := n1_
      have BK174 := n2_
      have HO180 := n3_
      have BK184 := n4_
      have HB := n5_
      have HO183 := n6_
      clear n0_ n1_ n2_ n3_ n4_ n5_ n6_
      clear ho hb hg hat
      obtain ⟨Ao18, co18, eo18⟩ := Kd.R_slice HO183.out
      (first | subst eo18 | (injection eo18 with f1_ f2_ f3_; have f4_ := f1_.symm; have f5_ := f3_.symm; clear f1_ f2_ f3_; subst f4_; subst f5_))
      refine hK.out _ _ ⟨ec BK172, ec BK172, ec BK173, ec BK173, ec BK173, ec BK173⟩ (fun hHeld => ?_)
      clear hK K
      refine nm (some 14) ?_
      refine pu 8 (some 15) #[true, true, true, true, true, true, true, true, true, true, false] ?_
      exact norm_ (by first | (simp only [putAll, Act.put, List.setIfInBounds_toArray, List.set_cons_zero, List.set_cons_succ]; done) | (simp only [putAll, Act.put, List.setIfInBounds_toArray, List.set_cons_zero, List.set_cons_succ]; rfl)) (hJ4_6_7_9 (v176, .slice Ao17 y178.length co17, .slice Ao18 y181.length co18, gb184) _ ⟨hHeld, (by (with_reducible repeat (first | apply Kd.R_alloc | apply Kd.R_drewN | apply Kd.R_drew)); exact Kd.R_mono HO180.out (fun _ hk => ⟨hk.2, hk.1⟩)), (pr HO183), (pk BK172), (pk BK173), (pk BK174), (pk BK184), GW184.out, GE184.out, NB172_184.out, NB184_172.out, NB173_184.out, NB184_173.out, NB174_184.out, NB184_174.out, bw⟩)
    ·skip
     rintro ⟨v176, v179, v182⟩ w17 ⟨hS_, h0_, h1_, h2_, h3_, h4_, h5_⟩
     have n0_ : Aside0 (Kd.R k37 37 w17 w.heap.size (fun k_ => some k_ ≠ (v182 : Value).ownBlock ∧ k_ ≠ gb173) v179 y178) := ⟨h0_⟩
     have n1_ : Aside0 (Kd.R k37 37 w17 w.heap.size (fun k_ => some k_ ≠ (v179 : Value).ownBlock ∧ k_ ≠ gb173) v182 y181) := ⟨h1_⟩
     have n2_ : Aside0 (w17.heap[gb172]? = some (.cells #[.int .i64 a0_0, .slice A0_1 l0_1.length c0_1] 29 (0, 0))) := ⟨h2_⟩
     have n3_ : Aside0 (w17.heap[gb173]? = some (.cells #[.int .i64 a1_0, .int .i64 a1_1, .int .i64 a1_2, .int .i64 a1_3] 37 (0, 0))) := ⟨h3_⟩
     have n4_ : Aside0 (w17.heap[gb174]? = some (.cells #[.int .i64 0, .slice none 0 0] 29 (0, 0))) := ⟨h4_⟩
     have n5_ : Aside0 (Below w.heap.size w w17) := ⟨h5_⟩
     clear BK172
     clear BK173
     clear BK174
     clear HB
     clear h0_ h1_ h2_ h3_ h4_ h5_
     have HO180 := n0_
     have HO183 := n1_
     have BK172 := n2_
     have BK173 := n3_
     have BK174 := n4_
     have HB := n5_
     clear n0_ n1_ n2_ n3_ n4_ n5_
     have hHeld : w17.cell? ⟨gb172, 0, none⟩ = some (.int .i64 a0_0) ∧ w17.cell? ⟨gb172, 1, none⟩ = some (.slice A0_1 l0_1.length c0_1) ∧ w17.cell? ⟨gb173, 0, none⟩ = some (.int .i64 a1_0) ∧ w17.cell? ⟨gb173, 1, none⟩ = some (.int .i64 a1_1) ∧ w17.cell? ⟨gb173, 2, none⟩ = some (.int .i64 a1_2) ∧ w17.cell? ⟨gb173, 3, none⟩ = some (.int .i64 a1_3) := hS_
     obtain ⟨Ao18, co18, eo18⟩ := Kd.R_slice HO183.out
     (first | subst eo18 | (injection eo18 with f1_ f2_ f3_; have f4_ := f1_.symm; have f5_ := f3_.symm; clear f1_ f2_ f3_; subst f4_; subst f5_))
     refine norm_ (a' := ?_) ?_ ?_
     rotate_left
     ·simp only [putAll, Act.put, List.setIfInBounds_toArray, List.set_cons_zero, List.set_cons_succ]
      rfl
     refine one_ (i := 9) (N := some 6) #[true, true, true, true, true, true, true, true, true, true, false] rfl rfl (one_of HT_.out (by kernel_rfl)) (by decide) (fun K hK => ?_)
     refine box_step ?hg (N := 6) ?hd (cs := #[.int .i64 0, .slice none 0 0]) (t := 29) ?hr ?_; (case hd => rfl); (case hg => rfl); (case hr => first | (go_simp; done) | (go_simp; rfl))
     intro gb184 hg w19 hbox hb
     replace HO180 := Aside0.mk (Kd.R_below (pr HO180) hb)
     replace HO183 := Aside0.mk (Kd.R_below (pr HO183) hb)
     have BK184 := Aside0.mk (hbox)
     have GW184 := gs hg
     have GE184 := gs hg
     replace HB := bs hb
     have NB172_184 := nl BK172 hg
     have NB184_172 := ng BK172 hg
     replace BK172 := nk BK172 hb
     have NB173_184 := nl BK173 hg
     have NB184_173 := ng BK173 hg
     replace BK173 := nk BK173 hb
     have NB174_184 := nl BK174 hg
     have NB184_174 := ng BK174 hg
     replace BK174 := nk BK174 hb
     clear hb hbox hg
     refine hK.out _ _ ⟨ec BK172, ec BK172, ec BK173, ec BK173, ec BK173, ec BK173⟩ (fun hHeld => ?_)
     clear hK K
     refine nm (some 6) ?_
     exact norm_ (by first | (simp only [putAll, Act.put, List.setIfInBounds_toArray, List.set_cons_zero, List.set_cons_succ]; done) | (simp only [putAll, Act.put, List.setIfInBounds_toArray, List.set_cons_zero, List.set_cons_succ]; rfl)) (hJ4_6_7_9 (v176, v179, .slice Ao18 y181.length co18, gb184) _ ⟨hHeld, (pr HO180), (pr HO183), (pk BK172), (pk BK173), (pk BK174), (pk BK184), GW184.out, GE184.out, NB172_184.out, NB184_172.out, NB173_184.out, NB184_173.out, NB174_184.out, NB184_174.out, bw⟩)
   rintro ⟨v176, v179, v182, gb184⟩ w18 ⟨hS_, h0_, h1_, h2_, h3_, h4_, h5_, h6_, h7_, h8_, h9_, h10_, h11_, h12_, h13_, h14_⟩
   have n0_ : Aside0 (Kd.R k37 37 w18 w.heap.size (fun k_ => some k_ ≠ (v182 : Value).ownBlock ∧ k_ ≠ gb173) v179 y178) := ⟨h0_⟩
   have n1_ : Aside0 (Kd.R k37 37 w18 w.heap.size (fun k_ => some k_ ≠ (v179 : Value).ownBlock ∧ k_ ≠ gb173) v182 y181) := ⟨h1_⟩
   have n2_ : Aside0 (w18.heap[gb172]? = some (.cells #[.int .i64 a0_0, .slice A0_1 l0_1.length c0_1] 29 (0, 0))) := ⟨h2_⟩
   have n3_ : Aside0 (w18.heap[gb173]? = some (.cells #[.int .i64 a1_0, .int .i64 a1_1, .int .i64 a1_2, .int .i64 a1_3] 37 (0, 0))) := ⟨h3_⟩
   have n4_ : Aside0 (w18.heap[gb174]? = some (.cells #[.int .i64 0, .slice none 0 0] 29 (0, 0))) := ⟨h4_⟩
   have n5_ : Aside0 (w18.heap[gb184]? = some (.cells #[.int .i64 0, .slice none 0 0] 29 (0, 0))) := ⟨h5_⟩
   have n6_ : Aside0 (w.heap.size ≤ gb184) := ⟨h6_⟩
   have n7_ : Aside0 (w.heap.size ≤ gb184) := ⟨h7_⟩
   have n8_ : Aside0 (gb172 ≠ gb184) := ⟨h8_⟩
   have n9_ : Aside0 (gb184 ≠ gb172) := ⟨h9_⟩
   have n10_ : Aside0 (gb173 ≠ gb184) := ⟨h10_⟩
   have n11_ : Aside0 (gb184 ≠ gb173) := ⟨h11_⟩
   have n12_ : Aside0 (gb174 ≠ gb184) := ⟨h12_⟩
   have n13_ : Aside0 (gb184 ≠ gb174) := ⟨h13_⟩
   have n14_ : Aside0 (Below w.heap.size w w18) := ⟨h14_⟩
   clear BK172
   clear BK173
   clear BK174
   clear HB
   clear h0_ h1_ h2_ h3_ h4_ h5_ h6_ h7_ h8_ h9_ h10_ h11_ h12_ h13_ h14_
   have HO180 := n0_
   have HO183 := n1_
   have BK172 := n2_
   have BK173 := n3_
   have BK174 := n4_
   have BK184 := n5_
   have GW184 := n6_
   have GE184 := n7_
   have NB172_184 := n8_
   have NB184_172 := n9_
   have NB173_184 := n10_
   have NB184_173 := n11_
   have NB174_184 := n12_
   have NB184_174 := n13_
   have HB := n14_
   clear n0_ n1_ n2_ n3_ n4_ n5_ n6_ n7_ n8_ n9_ n10_ n11_ n12_ n13_ n14_
   have hHeld : w18.cell? ⟨gb172, 0, none⟩ = some (.int .i64 a0_0) ∧ w18.cell? ⟨gb172, 1, none⟩ = some (.slice A0_1 l0_1.length c0_1) ∧ w18.cell? ⟨gb173, 0, none⟩ = some (.int .i64 a1_0) ∧ w18.cell? ⟨gb173, 1, none⟩ = some (.int .i64 a1_1) ∧ w18.cell? ⟨gb173, 2, none⟩ = some (.int .i64 a1_2) ∧ w18.cell? ⟨gb173, 3, none⟩ = some (.int .i64 a1_3) := hS_
   obtain ⟨Ao19, co19, eo19⟩ := Kd.R_slice HO183.out
   (first | subst eo19 | (injection eo19 with f1_ f2_ f3_; have f4_ := f1_.symm; have f5_ := f3_.symm; clear f1_ f2_ f3_; subst f4_; subst f5_))
   refine norm_ (a' := ?_) ?_ ?_
   rotate_left
   ·simp only [putAll, Act.put, List.setIfInBounds_toArray, List.set_cons_zero, List.set_cons_succ]
    rfl
   refine one_ (i := 10) (N := none) #[true, true, true, true, true, true, true, true, true, true, true] rfl rfl (one_of HT_.out (by kernel_rfl)) (by decide) (fun K hK => ?_)
   have hs20 : w18.cell? ⟨gb184, 0, none⟩ = some (.int .i64 0) := ec BK184
   have hfs20 := blk_frozen BK184.out 0
   have hns20_0 := NB172_184.out
   have hns20_1 := NB173_184.out
   have hns20_2 := NB174_184.out
   have hms20_0 := NB184_172.out
   have hms20_1 := NB184_173.out
   have hms20_2 := NB184_174.out
   have hs21 : w18.cell? ⟨gb184, 1, none⟩ = some (.slice none 0 0) := ec BK184
   have hfs21 := blk_frozen BK184.out 1
   have hns21_0 := NB172_184.out
   have hns21_1 := NB173_184.out
   have hns21_2 := NB174_184.out
   have hms21_0 := NB184_172.out
   have hms21_1 := NB184_173.out
   have hms21_2 := NB184_174.out
   refine skip_ (w1 := ?_) (by rfl) rfl ?_ ?_
   rotate_left
   ·go_simp
    rfl
   refine hK.out _ _ ⟨((cell_far (p := ⟨gb184, _, none⟩) NB172_184.out _).trans (((cell_far (p := ⟨gb184, _, none⟩) NB172_184.out _).trans (hHeld.1)))), ((cell_far (p := ⟨gb184, _, none⟩) NB172_184.out _).trans (((cell_far (p := ⟨gb184, _, none⟩) NB172_184.out _).trans (hHeld.2.1)))), ((cell_far (p := ⟨gb184, _, none⟩) NB173_184.out _).trans (((cell_far (p := ⟨gb184, _, none⟩) NB173_184.out _).trans (hHeld.2.2.1)))), ((cell_far (p := ⟨gb184, _, none⟩) NB173_184.out _).trans (((cell_far (p := ⟨gb184, _, none⟩) NB173_184.out _).trans (hHeld.2.2.2.1)))), ((cell_far (p := ⟨gb184, _, none⟩) NB173_184.out _).trans (((cell_far (p := ⟨gb184, _, none⟩) NB173_184.out _).trans (hHeld.2.2.2.2.1)))), ((cell_far (p := ⟨gb184, _, none⟩) NB173_184.out _).trans (((cell_far (p := ⟨gb184, _, none⟩) NB173_184.out _).trans (hHeld.2.2.2.2.2))))⟩ (fun hHeld => ?_)
   clear hK K
   refine done_ (done_of HT_.out (by kernel_rfl)) ?_
   have hnb22 := NB184_172.out
   have hnc22 := NB172_184.out
   have hnb23 := NB184_173.out
   have hnc23 := NB173_184.out
   have hnb24 := NB184_174.out
   have hnc24 := NB174_184.out
   have hcz25_0 := bc BK184 0 (.int .i64 0)
   have hcz25_1 := bc BK184 1 (.slice none 0 0)
   have hfz25_0 := blk_frozen BK184.out 0
   have hfz25_1 := blk_frozen BK184.out 1
   try go_wp2_with (first | ((with_reducible refine gate_callee (f := 21) rfl ?_); refine gl (some 17) Try.func21 #[.agg #[.int .i64 a0_0, .slice Ao19 y181.length co19]] ?_; (with_reducible refine (impl_isPuzzle.calls k a0_0 _ _ y181 true _ ?side1 ?side2 A5.out).mono ?_); (case side1 => refine (Kd.R_reads' (e := 37) (base := w.heap.size) (ok := fun k_ => (some k_ ≠ (v179 : Value).ownBlock ∧ k_ ≠ gb173)) (n := y181.length) (c := co19) ?_).2.2; exact (by (with_reducible repeat (first | apply Kd.R_alloc | apply Kd.R_drewN | apply Kd.R_drew)); exact (Kd.R_mono (Kd.R_far (p := ⟨gb184, 1, none⟩) (Kd.R_far (p := ⟨gb184, 0, none⟩) (Kd.R_types HO183.out BK184.out (by decide)) (fun _ hk => hk.2) (.int .i64 a0_0)) (fun _ hk => hk.2) (.slice Ao19 y181.length co19)) (fun _ h_ => h_.1)))); (case side2 => exact (Kd.R_reads' HO183.out).2.1); rintro e w26 ⟨rfl, hb⟩; refine ⟨_, rfl, ?_⟩; replace HO180 := Aside0.mk (Kd.R_below (by (with_reducible repeat (first | apply Kd.R_alloc | apply Kd.R_drewN | apply Kd.R_drew)); exact (Kd.R_mono (Kd.R_far (p := ⟨gb184, 1, none⟩) (Kd.R_far (p := ⟨gb184, 0, none⟩) (Kd.R_types HO180.out BK184.out (by decide)) (fun _ hk => hk.2) (.int .i64 a0_0)) (fun _ hk => hk.2) (.slice Ao19 y181.length co19)) (fun _ h_ => h_.1))) hb); replace HO183 := Aside0.mk (Kd.R_below (by (with_reducible repeat (first | apply Kd.R_alloc | apply Kd.R_drewN | apply Kd.R_drew)); exact (Kd.R_mono (Kd.R_far (p := ⟨gb184, 1, none⟩) (Kd.R_far (p := ⟨gb184, 0, none⟩) (Kd.R_types HO183.out BK184.out (by decide)) (fun _ hk => hk.2) (.int .i64 a0_0)) (fun _ hk => hk.2) (.slice Ao19 y181.length co19)) (fun _ h_ => h_.1))) hb); replace BK172 := Aside0.mk (blk_below (g := gb172) (o := .cells #[.int .i64 a0_0, .slice A0_1 l0_1.length c0_1] 29 (0, 0)) (by (with_reducible repeat (first | refine blk_drewN ?_ _ | refine blk_drew ?_ | refine blk_alloc ?_ _)); refine blk_far ?_ NB172_184.out _; (with_reducible repeat (first | refine blk_drewN ?_ _ | refine blk_drew ?_ | refine blk_alloc ?_ _)); refine blk_far ?_ NB172_184.out _; (with_reducible repeat (first | refine blk_drewN ?_ _ | refine blk_drew ?_ | refine blk_alloc ?_ _)); exact BK172.out) hb); replace BK173 := Aside0.mk (blk_below (g := gb173) (o := .cells #[.int .i64 a1_0, .int .i64 a1_1, .int .i64 a1_2, .int .i64 a1_3] 37 (0, 0)) (by (with_reducible repeat (first | refine blk_drewN ?_ _ | refine blk_drew ?_ | refine blk_alloc ?_ _)); refine blk_far ?_ NB173_184.out _; (with_reducible repeat (first | refine blk_drewN ?_ _ | refine blk_drew ?_ | refine blk_alloc ?_ _)); refine blk_far ?_ NB173_184.out _; (with_reducible repeat (first | refine blk_drewN ?_ _ | refine blk_drew ?_ | refine blk_alloc ?_ _)); exact BK173.out) hb); replace BK174 := Aside0.mk (blk_below (g := gb174) (o := .cells #[.int .i64 0, .slice none 0 0] 29 (0, 0)) (by (with_reducible repeat (first | refine blk_drewN ?_ _ | refine blk_drew ?_ | refine blk_alloc ?_ _)); refine blk_far ?_ NB174_184.out _; (with_reducible repeat (first | refine blk_drewN ?_ _ | refine blk_drew ?_ | refine blk_alloc ?_ _)); refine blk_far ?_ NB174_184.out _; (with_reducible repeat (first | refine blk_drewN ?_ _ | refine blk_drew ?_ | refine blk_alloc ?_ _)); exact BK174.out) hb); replace BK184 := Aside0.mk (blk_below (g := gb184) (o := .cells #[.int .i64 a0_0, .slice Ao19 y181.length co19] 29 (0, 0)) (by (with_reducible repeat (first | refine blk_drewN ?_ _ | refine blk_drew ?_ | refine blk_alloc ?_ _)); refine blk_put (cs := #[.int .i64 a0_0, .slice none 0 0]) ?_ 1 _ rfl; (with_reducible repeat (first | refine blk_drewN ?_ _ | refine blk_drew ?_ | refine blk_alloc ?_ _)); refine blk_put (cs := #[.int .i64 0, .slice none 0 0]) ?_ 0 _ rfl; (with_reducible repeat (first | refine blk_drewN ?_ _ | refine blk_drew ?_ | refine blk_alloc ?_ _)); exact BK184.out) hb); replace HB := bs hb; (try clear hb); have hcz27_0 := bc BK184 0 (.int .i64 a0_0); have hcz27_1 := bc BK184 1 (.slice Ao19 y181.length co19); have hfz27_0 := blk_frozen BK184.out 0; have hfz27_1 := blk_frozen BK184.out 1; have hnb28 := NB174_172.out; have hnc28 := NB172_174.out; have hnb29 := NB174_173.out; have hnc29 := NB173_174.out; have hcz30_0 := bc BK174 0 (.int .i64 0); have hcz30_1 := bc BK174 1 (.slice none 0 0); have hfz30_0 := blk_frozen BK174.out 0; have hfz30_1 := blk_frozen BK174.out 1))
   refine bodyPost_ret (results_ct rfl _ _ gb174 29 #[.int .i64 a0_0, .slice Ao19 y181.length co19] (0, 0) _ rfl (by (with_reducible repeat (first | refine blk_drewN ?_ _ | refine blk_drew ?_ | refine blk_alloc ?_ _)); refine blk_put (cs := #[.int .i64 a0_0, .slice none 0 0]) ?_ 1 _ rfl; (with_reducible repeat (first | refine blk_drewN ?_ _ | refine blk_drew ?_ | refine blk_alloc ?_ _)); refine blk_put (cs := #[.int .i64 0, .slice none 0 0]) ?_ 0 _ rfl; (with_reducible repeat (first | refine blk_drewN ?_ _ | refine blk_drew ?_ | refine blk_alloc ?_ _)); exact BK174.out) Try.underlying29 rfl (by kernel_rfl)) rfl ?_
   exact ⟨_, rs, by (with_reducible repeat (first | apply Kd.R_alloc | apply Kd.R_drewN | apply Kd.R_drew)); exact Kd.R_mono (Kd.R_far (p := ⟨gb174, 1, none⟩) (Kd.R_far (p := ⟨gb174, 0, none⟩) (Kd.R_types HO183.out BK174.out (by decide)) (fun _ hk => hk.2) (.int .i64 a0_0)) (fun _ hk => hk.2) (.slice Ao19 y181.length co19)) (fun _ hk => trivial), bw⟩
  ·replace c6 := Bool.eq_false_iff.mpr c6
   subst c6
   rw [if_neg (show ¬ (false = true) by decide)] at H
   simp only [Option.some.injEq, Prod.mk.injEq] at H
   obtain ⟨rfl, rfl, rfl⟩ := H
   go_enter Try.func13, Try.ntmps13
   try go_wp2_with (first | ((with_reducible refine gate_dst (N := 2) rfl ?_); refine bx 2 29 #[.int .i64 a0_0, .slice A0_1 l0_1.length c0_1] ?_; intro gb172 hg w31 hbox hb; have BK172 := hbox; have GW172 := gs hg; have GE172 := gs hg; replace HB := bs hb; clear hb hbox hg) | ((with_reducible refine gate_dst (N := 3) rfl ?_); refine bx 3 37 #[.int .i64 a1_0, .int .i64 a1_1, .int .i64 a1_2, .int .i64 a1_3] ?_; intro gb173 hg w32 hbox hb; have BK173 := hbox; have GW173 := gs hg; have GE173 := gs hg; replace HB := bs hb; have NB172_173 := nl BK172 hg; have NB173_172 := ng BK172 hg; replace BK172 := nk BK172 hb; clear hb hbox hg) | ((with_reducible refine gate_dst (N := 4) rfl ?_); refine bx 4 29 #[.int .i64 0, .slice none 0 0] ?_; intro gb174 hg w33 hbox hb; have BK174 := hbox; have GW174 := gs hg; have GE174 := gs hg; replace HB := bs hb; have NB172_174 := nl BK172 hg; have NB174_172 := ng BK172 hg; replace BK172 := nk BK172 hb; have NB173_174 := nl BK173 hg; have NB174_173 := ng BK173 hg; replace BK173 := nk BK173 hb; clear hb hbox hg))
   replace BK172 := Aside0.mk (blk_drew BK172.out)
   replace BK173 := Aside0.mk (blk_drew BK173.out)
   replace BK174 := Aside0.mk (blk_drew BK174.out)
   replace HB := Aside0.mk (below_drew1 HB.out)
   refine start_ (n := 11) (S := fun w' => w'.cell? ⟨gb172, 0, none⟩ = some (.int .i64 a0_0) ∧ w'.cell? ⟨gb172, 1, none⟩ = some (.slice A0_1 l0_1.length c0_1) ∧ w'.cell? ⟨gb173, 0, none⟩ = some (.int .i64 a1_0) ∧ w'.cell? ⟨gb173, 1, none⟩ = some (.int .i64 a1_1) ∧ w'.cell? ⟨gb173, 2, none⟩ = some (.int .i64 a1_2) ∧ w'.cell? ⟨gb173, 3, none⟩ = some (.int .i64 a1_3)) (ds := []) #[false, false, false, false, false, false, false, false, false, false, false] (by kernel_rfl) rfl rfl ⟨ec BK172, ec BK172, ec BK173, ec BK173, ec BK173, ec BK173⟩ (fun hHeld => ?_); refine with_tabW impl_AddClue.tab1 impl_AddClue.bits1 (fun HT_ HW_ => ?_)
   generalize w33.drew = w34 at BK172 BK173 BK174 HB hHeld ⊢
   refine pu 0 (some 7) #[true, false, false, false, false, false, false, false, false, false, false] ?_
   refine pu 2 (some 9) #[true, false, true, false, false, false, false, false, false, false, false] ?_
   refine take_ (i := 1) (N := some 8) (v := ?_) (a' := ?_) #[true, true, true, false, false, false, false, false, false, false, false] rfl rfl (take_ofW HT_.out HW_.out (by kernel_rfl)) (fun _ _ _ h => h) (Or.inl ⟨by rfl, ?_⟩) hHeld ?_ ?_
   rotate_left
   ·rintro w' ⟨s0, s1, s2, s3, s4, s5⟩
    go_simp
    with_reducible rfl
   rotate_left
   ·simp only [Act.put, List.setIfInBounds_toArray, List.set_cons_zero, List.set_cons_succ, i64_w, i32_w]
    rfl
   refine take_ (i := 3) (N := some 10) (v := ?_) (a' := ?_) #[true, true, true, true, false, false, false, false, false, false, false] rfl rfl (take_ofW HT_.out HW_.out (by kernel_rfl)) (fun _ _ _ h => h) (Or.inl ⟨by rfl, ?_⟩) hHeld ?_ ?_
   rotate_left
   ·rintro w' ⟨s0, s1, s2, s3, s4, s5⟩
    go_simp
    with_reducible rfl
   rotate_left
   ·simp only [Act.put, List.setIfInBounds_toArray, List.set_cons_zero, List.set_cons_succ, i64_w, i32_w]
    rfl
   refine take_ (i := 5) (N := some 12) (v := ?_) (a' := ?_) #[true, true, true, true, false, true, false, false, false, false, false] rfl rfl (take_ofW HT_.out HW_.out (by kernel_rfl)) (fun _ _ _ h => h) (Or.inl ⟨by rfl, ?_⟩) hHeld ?_ ?_
   rotate_left
   ·rintro w' ⟨s0, s1, s2, s3, s4, s5⟩
    go_simp
    with_reducible rfl
   rotate_left
   ·simp only [Act.put, List.setIfInBounds_toArray, List.set_cons_zero, List.set_cons_succ, i64_w, i32_w]
    rfl
   refine join_ (σ := Value × Value × Value × Nat) 1 #[true, true, true, true, true, true, true, true, true, true, false] (fun s_ => [(11, s_.1), (13, s_.2.1), (14, s_.2.2.1), (6, .pointer (some ⟨s_.2.2.2, 0, none⟩)), (15, .agg #[.int .i64 a0_0, s_.2.2.1])]) (fun s_ w' => (w'.cell? ⟨gb172, 0, none⟩ = some (.int .i64 a0_0) ∧ w'.cell? ⟨gb172, 1, none⟩ = some (.slice A0_1 l0_1.length c0_1) ∧ w'.cell? ⟨gb173, 0, none⟩ = some (.int .i64 a1_0) ∧ w'.cell? ⟨gb173, 1, none⟩ = some (.int .i64 a1_1) ∧ w'.cell? ⟨gb173, 2, none⟩ = some (.int .i64 a1_2) ∧ w'.cell? ⟨gb173, 3, none⟩ = some (.int .i64 a1_3)) ∧ (Kd.R k37 37 w' w.heap.size (fun k_ => some k_ ≠ (s_.2.2.1 : Value).ownBlock ∧ k_ ≠ gb173) s_.2.1 y178) ∧ (Kd.R k37 37 w' w.heap.size (fun k_ => some k_ ≠ (s_.2.1 : Value).ownBlock ∧ k_ ≠ gb173) s_.2.2.1 y181) ∧ (w'.heap[gb172]? = some (.cells #[.int .i64 a0_0, .slice A0_1 l0_1.length c0_1] 29 (0, 0))) ∧ (w'.heap[gb173]? = some (.cells #[.int .i64 a1_0, .int .i64 a1_1, .int .i64 a1_2, .int .i64 a1_3] 37 (0, 0))) ∧ (w'.heap[gb174]? = some (.cells #[.int .i64 0, .slice none 0 0] 29 (0, 0))) ∧ (w'.heap[s_.2.2.2]? = some (.cells #[.int .i64 0, .slice none 0 0] 29 (0, 0))) ∧ (w.heap.size ≤ s_.2.2.2) ∧ (w.heap.size ≤ s_.2.2.2) ∧ (gb172 ≠ s_.2.2.2) ∧ (s_.2.2.2 ≠ gb172) ∧ (gb173 ≠ s_.2.2.2) ∧ (s_.2.2.2 ≠ gb173) ∧ (gb174 ≠ s_.2.2.2) ∧ (s_.2.2.2 ≠ gb174) ∧ (Below w.heap.size w w')) ?_ ?_
   rotate_left
   ·intro hJ4_6_7_9
    refine join_ (σ := Value × Value × Value) 2 #[true, true, true, true, true, true, true, true, true, false, false] (fun s_ => [(11, s_.1), (13, s_.2.1), (14, s_.2.2), (15, .agg #[.int .i64 a0_0, s_.2.2])]) (fun s_ w' => (w'.cell? ⟨gb172, 0, none⟩ = some (.int .i64 a0_0) ∧ w'.cell? ⟨gb172, 1, none⟩ = some (.slice A0_1 l0_1.length c0_1) ∧ w'.cell? ⟨gb173, 0, none⟩ = some (.int .i64 a1_0) ∧ w'.cell? ⟨gb173, 1, none⟩ = some (.int .i64 a1_1) ∧ w'.cell? ⟨gb173, 2, none⟩ = some (.int .i64 a1_2) ∧ w'.cell? ⟨gb173, 3, none⟩ = some (.int .i64 a1_3)) ∧ (Kd.R k37 37 w' w.heap.size (fun k_ => some k_ ≠ (s_.2.2 : Value).ownBlock ∧ k_ ≠ gb173) s_.2.1 y178) ∧ (Kd.R k37 37 w' w.heap.size (fun k_ => some k_ ≠ (s_.2.1 : Value).ownBlock ∧ k_ ≠ gb173) s_.2.2 y181) ∧ (w'.heap[gb172]? = some (.cells #[.int .i64 a0_0, .slice A0_1 l0_1.length c0_1] 29 (0, 0))) ∧ (w'.heap[gb173]? = some (.cells #[.int .i64 a1_0, .int .i64 a1_1, .int .i64 a1_2, .int .i64 a1_3] 37 (0, 0))) ∧ (w'.heap[gb174]? = some (.cells #[.int .i64 0, .slice none 0 0] 29 (0, 0))) ∧ (Below w.heap.size w w')) ?_ ?_
    rotate_left
    ·intro hJ4_6_7
     refine join_ (σ := Value × Value × Nat) 3 #[true, true, true, true, true, true, true, false, false, true, false] (fun s_ => [(11, s_.1), (13, s_.2.1), (6, .pointer (some ⟨s_.2.2, 0, none⟩))]) (fun s_ w' => (w'.cell? ⟨gb172, 0, none⟩ = some (.int .i64 a0_0) ∧ w'.cell? ⟨gb172, 1, none⟩ = some (.slice A0_1 l0_1.length c0_1) ∧ w'.cell? ⟨gb173, 0, none⟩ = some (.int .i64 a1_0) ∧ w'.cell? ⟨gb173, 1, none⟩ = some (.int .i64 a1_1) ∧ w'.cell? ⟨gb173, 2, none⟩ = some (.int .i64 a1_2) ∧ w'.cell? ⟨gb173, 3, none⟩ = some (.int .i64 a1_3)) ∧ (Kd.R k37 37 w' w.heap.size (fun k_ => some k_ ≠ (s_.2.1 : Value).ownBlock ∧ k_ ≠ gb173) s_.1 t175) ∧ (Kd.R k37 37 w' w.heap.size (fun k_ => some k_ ≠ (s_.1 : Value).ownBlock ∧ k_ ≠ gb173) s_.2.1 y178) ∧ (w'.heap[gb172]? = some (.cells #[.int .i64 a0_0, .slice A0_1 l0_1.length c0_1] 29 (0, 0))) ∧ (w'.heap[gb173]? = some (.cells #[.int .i64 a1_0, .int .i64 a1_1, .int .i64 a1_2, .int .i64 a1_3] 37 (0, 0))) ∧ (w'.heap[gb174]? = some (.cells #[.int .i64 0, .slice none 0 0] 29 (0, 0))) ∧ (w'.heap[s_.2.2]? = some (.cells #[.int .i64 0, .slice none 0 0] 29 (0, 0))) ∧ (w.heap.size ≤ s_.2.2) ∧ (w.heap.size ≤ s_.2.2) ∧ (gb172 ≠ s_.2.2) ∧ (s_.2.2 ≠ gb172) ∧ (gb173 ≠ s_.2.2) ∧ (s_.2.2 ≠ gb173) ∧ (gb174 ≠ s_.2.2) ∧ (s_.2.2 ≠ gb174) ∧ (Below w.heap.size w w')) ?_ ?_
     rotate_left
     ·intro hJ4_6_9
      refine join_ (σ := Value × Value) 4 #[true, true, true, true, true, true, true, false, false, false, false] (fun s_ => [(11, s_.1), (13, s_.2)]) (fun s_ w' => (w'.cell? ⟨gb172, 0, none⟩ = some (.int .i64 a0_0) ∧ w'.cell? ⟨gb172, 1, none⟩ = some (.slice A0_1 l0_1.length c0_1) ∧ w'.cell? ⟨gb173, 0, none⟩ = some (.int .i64 a1_0) ∧ w'.cell? ⟨gb173, 1, none⟩ = some (.int .i64 a1_1) ∧ w'.cell? ⟨gb173, 2, none⟩ = some (.int .i64 a1_2) ∧ w'.cell? ⟨gb173, 3, none⟩ = some (.int .i64 a1_3)) ∧ (Kd.R k37 37 w' w.heap.size (fun k_ => some k_ ≠ (s_.2 : Value).ownBlock ∧ k_ ≠ gb173) s_.1 t175) ∧ (Kd.R k37 37 w' w.heap.size (fun k_ => some k_ ≠ (s_.1 : Value).ownBlock ∧ k_ ≠ gb173) s_.2 y178) ∧ (w'.heap[gb172]? = some (.cells #[.int .i64 a0_0, .slice A0_1 l0_1.length c0_1] 29 (0, 0))) ∧ (w'.heap[gb173]? = some (.cells #[.int .i64 a1_0, .int .i64 a1_1, .int .i64 a1_2, .int .i64 a1_3] 37 (0, 0))) ∧ (w'.heap[gb174]? = some (.cells #[.int .i64 0, .slice none 0 0] 29 (0, 0))) ∧ (Below w.heap.size w w')) ?_ ?_
      rotate_left
      ·intro hJ4_6
       refine join_ (σ := Value × Nat) 4 #[true, true, true, true, true, true, false, false, false, true, false] (fun s_ => [(11, s_.1), (6, .pointer (some ⟨s_.2, 0, none⟩))]) (fun s_ w' => (w'.cell? ⟨gb172, 0, none⟩ = some (.int .i64 a0_0) ∧ w'.cell? ⟨gb172, 1, none⟩ = some (.slice A0_1 l0_1.length c0_1) ∧ w'.cell? ⟨gb173, 0, none⟩ = some (.int .i64 a1_0) ∧ w'.cell? ⟨gb173, 1, none⟩ = some (.int .i64 a1_1) ∧ w'.cell? ⟨gb173, 2, none⟩ = some (.int .i64 a1_2) ∧ w'.cell? ⟨gb173, 3, none⟩ = some (.int .i64 a1_3)) ∧ (Kd.R k37 37 w' w.heap.size (fun k_ => k_ ≠ gb173) s_.1 t175) ∧ (w'.heap[gb172]? = some (.cells #[.int .i64 a0_0, .slice A0_1 l0_1.length c0_1] 29 (0, 0))) ∧ (w'.heap[gb173]? = some (.cells #[.int .i64 a1_0, .int .i64 a1_1, .int .i64 a1_2, .int .i64 a1_3] 37 (0, 0))) ∧ (w'.heap[gb174]? = some (.cells #[.int .i64 0, .slice none 0 0] 29 (0, 0))) ∧ (w'.heap[s_.2]? = some (.cells #[.int .i64 0, .slice none 0 0] 29 (0, 0))) ∧ (w.heap.size ≤ s_.2) ∧ (w.heap.size ≤ s_.2) ∧ (gb172 ≠ s_.2) ∧ (s_.2 ≠ gb172) ∧ (gb173 ≠ s_.2) ∧ (s_.2 ≠ gb173) ∧ (gb174 ≠ s_.2) ∧ (s_.2 ≠ gb174) ∧ (Below w.heap.size w w')) ?_ ?_
       rotate_left
       ·intro hJ4_9
        refine join_ (σ := Value × Nat) 4 #[true, true, true, true, false, true, true, false, false, true, false] (fun s_ => [(13, s_.1), (6, .pointer (some ⟨s_.2, 0, none⟩))]) (fun s_ w' => (w'.cell? ⟨gb172, 0, none⟩ = some (.int .i64 a0_0) ∧ w'.cell? ⟨gb172, 1, none⟩ = some (.slice A0_1 l0_1.length c0_1) ∧ w'.cell? ⟨gb173, 0, none⟩ = some (.int .i64 a1_0) ∧ w'.cell? ⟨gb173, 1, none⟩ = some (.int .i64 a1_1) ∧ w'.cell? ⟨gb173, 2, none⟩ = some (.int .i64 a1_2) ∧ w'.cell? ⟨gb173, 3, none⟩ = some (.int .i64 a1_3)) ∧ (Kd.R k37 37 w' w.heap.size (fun k_ => k_ ≠ gb173) s_.1 y178) ∧ (w'.heap[gb172]? = some (.cells #[.int .i64 a0_0, .slice A0_1 l0_1.length c0_1] 29 (0, 0))) ∧ (w'.heap[gb173]? = some (.cells #[.int .i64 a1_0, .int .i64 a1_1, .int .i64 a1_2, .int .i64 a1_3] 37 (0, 0))) ∧ (w'.heap[gb174]? = some (.cells #[.int .i64 0, .slice none 0 0] 29 (0, 0))) ∧ (w'.heap[s_.2]? = some (.cells #[.int .i64 0, .slice none 0 0] 29 (0, 0))) ∧ (w.heap.size ≤ s_.2) ∧ (w.heap.size ≤ s_.2) ∧ (gb172 ≠ s_.2) ∧ (s_.2 ≠ gb172) ∧ (gb173 ≠ s_.2) ∧ (s_.2 ≠ gb173) ∧ (gb174 ≠ s_.2) ∧ (s_.2 ≠ gb174) ∧ (Below w.heap.size w w')) ?_ ?_
        rotate_left
        ·intro hJ6_9
         refine join_ (σ := Value) 5 #[true, true, true, true, true, true, false, false, false, false, false] (fun s_ => [(11, s_)]) (fun s_ w' => (w'.cell? ⟨gb172, 0, none⟩ = some (.int .i64 a0_0) ∧ w'.cell? ⟨gb172, 1, none⟩ = some (.slice A0_1 l0_1.length c0_1) ∧ w'.cell? ⟨gb173, 0, none⟩ = some (.int .i64 a1_0) ∧ w'.cell? ⟨gb173, 1, none⟩ = some (.int .i64 a1_1) ∧ w'.cell? ⟨gb173, 2, none⟩ = some (.int .i64 a1_2) ∧ w'.cell? ⟨gb173, 3, none⟩ = some (.int .i64 a1_3)) ∧ (Kd.R k37 37 w' w.heap.size (fun k_ => k_ ≠ gb173) s_ t175) ∧ (w'.heap[gb172]? = some (.cells #[.int .i64 a0_0, .slice A0_1 l0_1.length c0_1] 29 (0, 0))) ∧ (w'.heap[gb173]? = some (.cells #[.int .i64 a1_0, .int .i64 a1_1, .int .i64 a1_2, .int .i64 a1_3] 37 (0, 0))) ∧ (w'.heap[gb174]? = some (.cells #[.int .i64 0, .slice none 0 0] 29 (0, 0))) ∧ (Below w.heap.size w w')) ?_ ?_
         rotate_left
         ·intro hJ4
          refine join_ (σ := Value) 5 #[true, true, true, true, false, true, true, false, false, false, false] (fun s_ => [(13, s_)]) (fun s_ w' => (w'.cell? ⟨gb172, 0, none⟩ = some (.int .i64 a0_0) ∧ w'.cell? ⟨gb172, 1, none⟩ = some (.slice A0_1 l0_1.length c0_1) ∧ w'.cell? ⟨gb173, 0, none⟩ = some (.int .i64 a1_0) ∧ w'.cell? ⟨gb173, 1, none⟩ = some (.int .i64 a1_1) ∧ w'.cell? ⟨gb173, 2, none⟩ = some (.int .i64 a1_2) ∧ w'.cell? ⟨gb173, 3, none⟩ = some (.int .i64 a1_3)) ∧ (Kd.R k37 37 w' w.heap.size (fun k_ => k_ ≠ gb173) s_ y178) ∧ (w'.heap[gb172]? = some (.cells #[.int .i64 a0_0, .slice A0_1 l0_1.length c0_1] 29 (0, 0))) ∧ (w'.heap[gb173]? = some (.cells #[.int .i64 a1_0, .int .i64 a1_1, .int .i64 a1_2, .int .i64 a1_3] 37 (0, 0))) ∧ (w'.heap[gb174]? = some (.cells #[.int .i64 0, .slice none 0 0] 29 (0, 0))) ∧ (Below w.heap.size w w')) ?_ ?_
          rotate_left
          ·intro hJ6
           refine join_ (σ := Nat) 5 #[true, true, true, true, false, true, false, false, false, true, false] (fun s_ => [(6, .pointer (some ⟨s_, 0, none⟩))]) (fun s_ w' => (w'.cell? ⟨gb172, 0, none⟩ = some (.int .i64 a0_0) ∧ w'.cell? ⟨gb172, 1, none⟩ = some (.slice A0_1 l0_1.length c0_1) ∧ w'.cell? ⟨gb173, 0, none⟩ = some (.int .i64 a1_0) ∧ w'.cell? ⟨gb173, 1, none⟩ = some (.int .i64 a1_1) ∧ w'.cell? ⟨gb173, 2, none⟩ = some (.int .i64 a1_2) ∧ w'.cell? ⟨gb173, 3, none⟩ = some (.int .i64 a1_3)) ∧ (w'.heap[gb172]? = some (.cells #[.int .i64 a0_0, .slice A0_1 l0_1.length c0_1] 29 (0, 0))) ∧ (w'.heap[gb173]? = some (.cells #[.int .i64 a1_0, .int .i64 a1_1, .int .i64 a1_2, .int .i64 a1_3] 37 (0, 0))) ∧ (w'.heap[gb174]? = some (.cells #[.int .i64 0, .slice none 0 0] 29 (0, 0))) ∧ (w'.heap[s_]? = some (.cells #[.int .i64 0, .slice none 0 0] 29 (0, 0))) ∧ (w.heap.size ≤ s_) ∧ (w.heap.size ≤ s_) ∧ (gb172 ≠ s_) ∧ (s_ ≠ gb172) ∧ (gb173 ≠ s_) ∧ (s_ ≠ gb173) ∧ (gb174 ≠ s_) ∧ (s_ ≠ gb174) ∧ (Below w.heap.size w w')) ?_ ?_
           rotate_left
           ·intro hJ9
            refine three_ (i := 4) (j := 6) (k := 9) (Ni := some 11) (Nj := some 13) (Nk := some 6) #[true, true, true, true, true, true, false, false, false, false, false] #[true, true, true, true, false, true, true, false, false, false, false] #[true, true, true, true, false, true, false, false, false, true, false] rfl rfl rfl rfl rfl rfl (three_of HT_.out (by kernel_rfl)) (by decide) (by decide) (by decide) (fun K hK => ?_) (fun K hK => ?_) (fun K hK => ?_)
            ·skip
             refine goes_ Try.func24 (by kernel_rfl) rfl #[.slice A0_1 l0_1.length c0_1] (by rfl) rfl rfl (by (try simp only [List.map_toArray, List.map_cons, List.map_nil]); first | done | rfl | (simp only [List.length_drop, List.length_take]; rfl)) ?_
             with_reducible refine (impl_Clue_24.calls _ _ l0_1 t175 _ ?side1 ?side2 A3.out).mono ?_
             (case side1 => repeat (first | exact (Kd.C_below HR0_1.out HB.out) | (with_reducible refine Kd.C_alloc ?_ _) | (with_reducible refine Kd.C_drewN ?_ _) | (with_reducible refine Kd.C_drew ?_)))
             (case side2 => exact HC0_1.out)
             rintro e w35 ⟨v176, rfl, ho0, hb⟩
             refine ⟨_, rfl, ?_⟩
             have HO177 := Aside0.mk (Kd.R_lower (Kd.R_newB ho0 (g := gb173) (o := .cells #[.int .i64 a1_0, .int .i64 a1_1, .int .i64 a1_2, .int .i64 a1_3] 37 (0, 0)) (pk BK173)) (below_size bw))
             replace BK172 := nk BK172 hb
             replace BK173 := nk BK173 hb
             replace BK174 := nk BK174 hb
             replace HB := bs hb
             (try clear hb)
             (try clear ho0)
             refine hK.out _ _ ⟨ec BK172, ec BK172, ec BK173, ec BK173, ec BK173, ec BK173⟩ (fun hHeld => ?_)
             clear hK K
             refine nm (some 11) ?_
             exact norm_ (by first | (simp only [putAll, Act.put, List.setIfInBounds_toArray, List.set_cons_zero, List.set_cons_succ]; done) | (simp only [putAll, Act.put, List.setIfInBounds_toArray, List.set_cons_zero, List.set_cons_succ]; rfl)) (hJ4 (v176) _ ⟨hHeld, (by (with_reducible repeat (first | apply Kd.R_alloc | apply Kd.R_drewN | apply Kd.R_drew)); exact Kd.R_mono HO177.out (fun _ hk => hk.2)), (pk BK172), (pk BK173), (pk BK174), bw⟩)
            ·skip
             refine Kd.R_lit_step k37 _ 37 ?hg (N := 13) ?hd (xs := ([(⟨a1_0, a1_1, a1_2, a1_3⟩ : S37)] : List (S37))) (inner := [.int .i64 a1_0, .int .i64 a1_1, .int .i64 a1_2, .int .i64 a1_3]) (ok := fun _ => True) (okp := fun _ => True) ?hr ?hp (fun _ hk => hk) trivial (Below.refl _ _) (Nat.le_refl _) (by simp) ?_; (case hd => rfl); (case hg => rfl); (case hr => first | (go_simp; done) | (go_simp; rfl)); (case hp => exact (Reps.c4 (show Kd.M k37 _ _ _ (⟨a1_0, a1_1, a1_2, a1_3⟩ : S37) [.int .i64 a1_0, .int .i64 a1_1, .int .i64 a1_2, .int .i64 a1_3] from (k37_mkM _ _ _ (⟨a1_0, a1_1, a1_2, a1_3⟩ : S37) )) (Reps.none _ _)))
             intro v179 w35 ho36 hb hg_ hnew_
             clear hg_ hnew_
             (first | rw [← Ny178.out] at ho36 | (simp only [Int.reduceToNat] at ho36; rw [← Ny178.out] at ho36))
             have HO180 := Aside0.mk (Kd.R_lower (Kd.R_newB ho36 (g := gb173) (o := .cells #[.int .i64 a1_0, .int .i64 a1_1, .int .i64 a1_2, .int .i64 a1_3] 37 (0, 0)) (pk BK173)) (below_size bw))
             replace BK172 := nk BK172 hb
             replace BK173 := nk BK173 hb
             replace BK174 := nk BK174 hb
             replace HB := bs hb
             clear hb ho36
             refine hK.out _ _ ⟨ec BK172, ec BK172, ec BK173, ec BK173, ec BK173, ec BK173⟩ (fun hHeld => ?_)
             clear hK K
             refine nm (some 13) ?_
             exact norm_ (by first | (simp only [putAll, Act.put, List.setIfInBounds_toArray, List.set_cons_zero, List.set_cons_succ]; done) | (simp only [putAll, Act.put, List.setIfInBounds_toArray, List.set_cons_zero, List.set_cons_succ]; rfl)) (hJ6 (v179) _ ⟨hHeld, (by (with_reducible repeat (first | apply Kd.R_alloc | apply Kd.R_drewN | apply Kd.R_drew)); exact Kd.R_mono HO180.out (fun _ hk => hk.2)), (pk BK172), (pk BK173), (pk BK174), bw⟩)
            ·skip
             refine box_step ?hg (N := 6) ?hd (cs := #[.int .i64 0, .slice none 0 0]) (t := 29) ?hr ?_; (case hd => rfl); (case hg => rfl); (case hr => first | (go_simp; done) | (go_simp; rfl))
             intro gb184 hg w35 hbox hb
             have BK184 := Aside0.mk (hbox)
             have GW184 := gs hg
             have GE184 := gs hg
             replace HB := bs hb
             have NB172_184 := nl BK172 hg
             have NB184_172 := ng BK172 hg
             replace BK172 := nk BK172 hb
             have NB173_184 := nl BK173 hg
             have NB184_173 := ng BK173 hg
             replace BK173 := nk BK173 hb
             have NB174_184 := nl BK174 hg
             have NB184_174 := ng BK174 hg
             replace BK174 := nk BK174 hb
             clear hb hbox hg
             refine hK.out _ _ ⟨ec BK172, ec BK172, ec BK173, ec BK173, ec BK173, ec BK173⟩ (fun hHeld => ?_)
             clear hK K
             refine nm (some 6) ?_
             exact norm_ (by first | (simp only [putAll, Act.put, List.setIfInBounds_toArray, List.set_cons_zero, List.set_cons_succ]; done) | (simp only [putAll, Act.put, List.setIfInBounds_toArray, List.set_cons_zero, List.set_cons_succ]; rfl)) (hJ9 (gb184) _ ⟨hHeld, (pk BK172), (pk BK173), (pk BK174), (pk BK184), GW184.out, GE184.out, NB172_184.out, NB184_172.out, NB173_184.out, NB184_173.out, NB174_184.out, NB184_174.out, bw⟩)
           ·skip
            rintro gb184 w36 ⟨hS_, h0_, h1_, h2_, h3_, h4_, h5_, h6_, h7_, h8_, h9_, h10_, h11_, h12_⟩
            have n0_ : Aside0 (w36.heap[gb172]? = some (.cells #[.int .i64 a0_0, .slice A0_1 l0_1.length c0_1] 29 (0, 0))) := ⟨h0_⟩
            have n1_ : Aside0 (w36.heap[gb173]? = some (.cells #[.int .i64 a1_0, .int .i64 a1_1, .int .i64 a1_2, .int .i64 a1_3] 37 (0, 0))) := ⟨h1_⟩
            have n2_ : Aside0 (w36.heap[gb174]? = some (.cells #[.int .i64 0, .slice none 0 0] 29 (0, 0))) := ⟨h2_⟩
            have n3_ : Aside0 (w36.heap[gb184]? = some (.cells #[.int .i64 0, .slice none 0 0] 29 (0, 0))) := ⟨h3_⟩
            have n4_ : Aside0 (w.heap.size ≤ gb184) := ⟨h4_⟩
            have n5_ : Aside0 (w.heap.size ≤ gb184) := ⟨h5_⟩
            have n6_ : Aside0 (gb172 ≠ gb184) := ⟨h6_⟩
            have n7_ : Aside0 (gb184 ≠ gb172) := ⟨h7_⟩
            have n8_ : Aside0 (gb173 ≠ gb184) := ⟨h8_⟩
            have n9_ : Aside0 (gb184 ≠ gb173) := ⟨h9_⟩
            have n10_ : Aside0 (gb174 ≠ gb184) := ⟨h10_⟩
            have n11_ : Aside0 (gb184 ≠ gb174) := ⟨h11_⟩
            have n12_ : Aside0 (Below w.heap.size w w36) := ⟨h12_⟩
            clear BK172
            clear BK173
            clear BK174
            clear HB
            clear h0_ h1_ h2_ h3_ h4_ h5_ h6_ h7_ h8_ h9_ h10_ h11_ h12_
            have BK172 := n0_
            have BK173 := n1_
            have BK174 := n2_
            have BK184 := n3_
            have GW184 := n4_
            have GE184 := n5_
            have NB172_184 := n6_
            have NB184_172 := n7_
            have NB173_184 := n8_
            have NB184_173 := n9_
            have NB174_184 := n10_
            have NB184_174 := n11_
            have HB := n12_
            clear n0_ n1_ n2_ n3_ n4_ n5_ n6_ n7_ n8_ n9_ n10_ n11_ n12_
            have hHeld : w36.cell? ⟨gb172, 0, none⟩ = some (.int .i64 a0_0) ∧ w36.cell? ⟨gb172, 1, none⟩ = some (.slice A0_1 l0_1.length c0_1) ∧ w36.cell? ⟨gb173, 0, none⟩ = some (.int .i64 a1_0) ∧ w36.cell? ⟨gb173, 1, none⟩ = some (.int .i64 a1_1) ∧ w36.cell? ⟨gb173, 2, none⟩ = some (.int .i64 a1_2) ∧ w36.cell? ⟨gb173, 3, none⟩ = some (.int .i64 a1_3) := hS_
            refine norm_ (a' := ?_) ?_ ?_
            rotate_left
            ·simp only [putAll, Act.put, List.setIfInBounds_toArray, List.set_cons_zero, List.set_cons_succ]
             rfl
            refine two_ (i := 4) (j := 6) (Ni := some 11) (Nj := some 13) #[true, true, true, true, true, true, false, false, false, true, false] #[true, true, true, true, false, true, true, false, false, true, false] rfl rfl rfl rfl (two_of HT_.out (by kernel_rfl)) (by decide) (by decide) (fun K hK => ?_) (fun K hK => ?_)
            ·skip
             refine goes_ Try.func24 (by kernel_rfl) rfl #[.slice A0_1 l0_1.length c0_1] (by rfl) rfl rfl (by (try simp only [List.map_toArray, List.map_cons, List.map_nil]); first | done | rfl | (simp only [List.length_drop, List.length_take]; rfl)) ?_
             with_reducible refine (impl_Clue_24.calls _ _ l0_1 t175 _ ?side1 ?side2 A3.out).mono ?_
             (case side1 => repeat (first | exact (Kd.C_below HR0_1.out HB.out) | (with_reducible refine Kd.C_alloc ?_ _) | (with_reducible refine Kd.C_drewN ?_ _) | (with_reducible refine Kd.C_drew ?_)))
             (case side2 => exact HC0_1.out)
             rintro e w37 ⟨v176, rfl, ho0, hb⟩
             refine ⟨_, rfl, ?_⟩
             have HO177 := Aside0.mk (Kd.R_lower (Kd.R_newB ho0 (g := gb173) (o := .cells #[.int .i64 a1_0, .int .i64 a1_1, .int .i64 a1_2, .int .i64 a1_3] 37 (0, 0)) (pk BK173)) (below_size bw))
             replace BK172 := nk BK172 hb
             replace BK173 := nk BK173 hb
             replace BK174 := nk BK174 hb
             replace BK184 := nk BK184 hb
             replace HB := bs hb
             (try clear hb)
             (try clear ho0)
             refine hK.out _ _ ⟨ec BK172, ec BK172, ec BK173, ec BK173, ec BK173, ec BK173⟩ (fun hHeld => ?_)
             clear hK K
             refine nm (some 11) ?_
             exact norm_ (by first | (simp only [putAll, Act.put, List.setIfInBounds_toArray, List.set_cons_zero, List.set_cons_succ]; done) | (simp only [putAll, Act.put, List.setIfInBounds_toArray, List.set_cons_zero, List.set_cons_succ]; rfl)) (hJ4_9 (v176, gb184) _ ⟨hHeld, (by (with_reducible repeat (first | apply Kd.R_alloc | apply Kd.R_drewN | apply Kd.R_drew)); exact Kd.R_mono HO177.out (fun _ hk => hk.2)), (pk BK172), (pk BK173), (pk BK174), (pk BK184), GW184.out, GE184.out, NB172_184.out, NB184_172.out, NB173_184.out, NB184_173.out, NB174_184.out, NB184_174.out, bw⟩)
            ·skip
             refine Kd.R_lit_step k37 _ 37 ?hg (N := 13) ?hd (xs := ([(⟨a1_0, a1_1, a1_2, a1_3⟩ : S37)] : List (S37))) (inner := [.int .i64 a1_0, .int .i64 a1_1, .int .i64 a1_2, .int .i64 a1_3]) (ok := fun _ => True) (okp := fun _ => True) ?hr ?hp (fun _ hk => hk) trivial (Below.refl _ _) (Nat.le_refl _) (by simp) ?_; (case hd => rfl); (case hg => rfl); (case hr => first | (go_simp; done) | (go_simp; rfl)); (case hp => exact (Reps.c4 (show Kd.M k37 _ _ _ (⟨a1_0, a1_1, a1_2, a1_3⟩ : S37) [.int .i64 a1_0, .int .i64 a1_1, .int .i64 a1_2, .int .i64 a1_3] from (k37_mkM _ _ _ (⟨a1_0, a1_1, a1_2, a1_3⟩ : S37) )) (Reps.none _ _)))
             intro v179 w37 ho38 hb hg_ hnew_
             clear hg_ hnew_
             (first | rw [← Ny178.out] at ho38 | (simp only [Int.reduceToNat] at ho38; rw [← Ny178.out] at ho38))
             have HO180 := Aside0.mk (Kd.R_lower (Kd.R_newB ho38 (g := gb173) (o := .cells #[.int .i64 a1_0, .int .i64 a1_1, .int .i64 a1_2, .int .i64 a1_3] 37 (0, 0)) (pk BK173)) (below_size bw))
             replace BK172 := nk BK172 hb
             replace BK173 := nk BK173 hb
             replace BK174 := nk BK174 hb
             replace BK184 := nk BK184 hb
             replace HB := bs hb
             clear hb ho38
             refine hK.out _ _ ⟨ec BK172, ec BK172, ec BK173, ec BK173, ec BK173, ec BK173⟩ (fun hHeld => ?_)
             clear hK K
             refine nm (some 13) ?_
             exact norm_ (by first | (simp only [putAll, Act.put, List.setIfInBounds_toArray, List.set_cons_zero, List.set_cons_succ]; done) | (simp only [putAll, Act.put, List.setIfInBounds_toArray, List.set_cons_zero, List.set_cons_succ]; rfl)) (hJ6_9 (v179, gb184) _ ⟨hHeld, (by (with_reducible repeat (first | apply Kd.R_alloc | apply Kd.R_drewN | apply Kd.R_drew)); exact Kd.R_mono HO180.out (fun _ hk => hk.2)), (pk BK172), (pk BK173), (pk BK174), (pk BK184), GW184.out, GE184.out, NB172_184.out, NB184_172.out, NB173_184.out, NB184_173.out, NB174_184.out, NB184_174.out, bw⟩)
          ·skip
           rintro v179 w37 ⟨hS_, h0_, h1_, h2_, h3_, h4_⟩
           have n0_ : Aside0 (Kd.R k37 37 w37 w.heap.size (fun k_ => k_ ≠ gb173) v179 y178) := ⟨h0_⟩
           have n1_ : Aside0 (w37.heap[gb172]? = some (.cells #[.int .i64 a0_0, .slice A0_1 l0_1.length c0_1] 29 (0, 0))) := ⟨h1_⟩
           have n2_ : Aside0 (w37.heap[gb173]? = some (.cells #[.int .i64 a1_0, .int .i64 a1_1, .int .i64 a1_2, .int .i64 a1_3] 37 (0, 0))) := ⟨h2_⟩
           have n3_ : Aside0 (w37.heap[gb174]? = some (.cells #[.int .i64 0, .slice none 0 0] 29 (0, 0))) := ⟨h3_⟩
           have n4_ : Aside0 (Below w.heap.size w w37) := ⟨h4_⟩
           clear BK172
           clear BK173
           clear BK174
           clear HB
           clear h0_ h1_ h2_ h3_ h4_
           have HO180 := n0_
           have BK172 := n1_
           have BK173 := n2_
           have BK174 := n3_
           have HB := n4_
           clear n0_ n1_ n2_ n3_ n4_
           have hHeld : w37.cell? ⟨gb172, 0, none⟩ = some (.int .i64 a0_0) ∧ w37.cell? ⟨gb172, 1, none⟩ = some (.slice A0_1 l0_1.length c0_1) ∧ w37.cell? ⟨gb173, 0, none⟩ = some (.int .i64 a1_0) ∧ w37.cell? ⟨gb173, 1, none⟩ = some (.int .i64 a1_1) ∧ w37.cell? ⟨gb173, 2, none⟩ = some (.int .i64 a1_2) ∧ w37.cell? ⟨gb173, 3, none⟩ = some (.int .i64 a1_3) := hS_
           refine norm_ (a' := ?_) ?_ ?_
           rotate_left
           ·simp only [putAll, Act.put, List.setIfInBounds_toArray, List.set_cons_zero, List.set_cons_succ]
            rfl
           refine two_ (i := 4) (j := 9) (Ni := some 11) (Nj := some 6) #[true, true, true, true, true, true, true, false, false, false, false] #[true, true, true, true, false, true, true, false, false, true, false] rfl rfl rfl rfl (two_of HT_.out (by kernel_rfl)) (by decide) (by decide) (fun K hK => ?_) (fun K hK => ?_)
           ·skip
            refine goes_ Try.func24 (by kernel_rfl) rfl #[.slice A0_1 l0_1.length c0_1] (by rfl) rfl rfl (by (try simp only [List.map_toArray, List.map_cons, List.map_nil]); first | done | rfl | (simp only [List.length_drop, List.length_take]; rfl)) ?_
            with_reducible refine (impl_Clue_24.calls _ _ l0_1 t175 _ ?side1 ?side2 A3.out).mono ?_
            (case side1 => repeat (first | exact (Kd.C_below HR0_1.out HB.out) | (with_reducible refine Kd.C_alloc ?_ _) | (with_reducible refine Kd.C_drewN ?_ _) | (with_reducible refine Kd.C_drew ?_)))
            (case side2 => exact HC0_1.out)
            rintro e w38 ⟨v176, rfl, ho0, hb⟩
            refine ⟨_, rfl, ?_⟩
            have HO177 := Aside0.mk (Kd.R_lower (Kd.R_newB (Kd.R_new' ho0 (Kd.R_lt (pr HO180))) (g := gb173) (o := .cells #[.int .i64 a1_0, .int .i64 a1_1, .int .i64 a1_2, .int .i64 a1_3] 37 (0, 0)) (pk BK173)) (below_size bw))
            replace HO180 := Aside0.mk (Kd.R_elder' (pr HO180) (Kd.R_base ho0) hb)
            replace BK172 := nk BK172 hb
            replace BK173 := nk BK173 hb
            replace BK174 := nk BK174 hb
            replace HB := bs hb
            (try clear hb)
            (try clear ho0)
            refine hK.out _ _ ⟨ec BK172, ec BK172, ec BK173, ec BK173, ec BK173, ec BK173⟩ (fun hHeld => ?_)
            clear hK K
            refine nm (some 11) ?_
            exact norm_ (by first | (simp only [putAll, Act.put, List.setIfInBounds_toArray, List.set_cons_zero, List.set_cons_succ]; done) | (simp only [putAll, Act.put, List.setIfInBounds_toArray, List.set_cons_zero, List.set_cons_succ]; rfl)) (hJ4_6 (v176, v179) _ ⟨hHeld, (by (with_reducible repeat (first | apply Kd.R_alloc | apply Kd.R_drewN | apply Kd.R_drew)); exact Kd.R_mono HO177.out (fun _ hk => ⟨hk.1.2, hk.2⟩)), (by (with_reducible repeat (first | apply Kd.R_alloc | apply Kd.R_drewN | apply Kd.R_drew)); exact Kd.R_mono HO180.out (fun _ hk => ⟨hk.2, hk.1⟩)), (pk BK172), (pk BK173), (pk BK174), bw⟩)
           ·skip
            refine box_step ?hg (N := 6) ?hd (cs := #[.int .i64 0, .slice none 0 0]) (t := 29) ?hr ?_; (case hd => rfl); (case hg => rfl); (case hr => first | (go_simp; done) | (go_simp; rfl))
            intro gb184 hg w38 hbox hb
            replace HO180 := Aside0.mk (Kd.R_below (pr HO180) hb)
            have BK184 := Aside0.mk (hbox)
            have GW184 := gs hg
            have GE184 := gs hg
            replace HB := bs hb
            have NB172_184 := nl BK172 hg
            have NB184_172 := ng BK172 hg
            replace BK172 := nk BK172 hb
            have NB173_184 := nl BK173 hg
            have NB184_173 := ng BK173 hg
            replace BK173 := nk BK173 hb
            have NB174_184 := nl BK174 hg
            have NB184_174 := ng BK174 hg
            replace BK174 := nk BK174 hb
            clear hb hbox hg
            refine hK.out _ _ ⟨ec BK172, ec BK172, ec BK173, ec BK173, ec BK173, ec BK173⟩ (fun hHeld => ?_)
            clear hK K
            refine nm (some 6) ?_
            exact norm_ (by first | (simp only [putAll, Act.put, List.setIfInBounds_toArray, List.set_cons_zero, List.set_cons_succ]; done) | (simp only [putAll, Act.put, List.setIfInBounds_toArray, List.set_cons_zero, List.set_cons_succ]; rfl)) (hJ6_9 (v179, gb184) _ ⟨hHeld, (pr HO180), (pk BK172), (pk BK173), (pk BK174), (pk BK184), GW184.out, GE184.out, NB172_184.out, NB184_172.out, NB173_184.out, NB184_173.out, NB174_184.out, NB184_174.out, bw⟩)
         ·skip
          rintro v176 w36 ⟨hS_, h0_, h1_, h2_, h3_, h4_⟩
          have n0_ : Aside0 (Kd.R k37 37 w36 w.heap.size (fun k_ => k_ ≠ gb173) v176 t175) := ⟨h0_⟩
          have n1_ : Aside0 (w36.heap[gb172]? = some (.cells #[.int .i64 a0_0, .slice A0_1 l0_1.length c0_1] 29 (0, 0))) := ⟨h1_⟩
          have n2_ : Aside0 (w36.heap[gb173]? = some (.cells #[.int .i64 a1_0, .int .i64 a1_1, .int .i64 a1_2, .int .i64 a1_3] 37 (0, 0))) := ⟨h2_⟩
          have n3_ : Aside0 (w36.heap[gb174]? = some (.cells #[.int .i64 0, .slice none 0 0] 29 (0, 0))) := ⟨h3_⟩
          have n4_ : Aside0 (Below w.heap.size w w36) := ⟨h4_⟩
          clear BK172
          clear BK173
          clear BK174
          clear HB
          clear h0_ h1_ h2_ h3_ h4_
          have HO177 := n0_
          have BK172 := n1_
          have BK173 := n2_
          have BK174 := n3_
          have HB := n4_
          clear n0_ n1_ n2_ n3_ n4_
          have hHeld : w36.cell? ⟨gb172, 0, none⟩ = some (.int .i64 a0_0) ∧ w36.cell? ⟨gb172, 1, none⟩ = some (.slice A0_1 l0_1.length c0_1) ∧ w36.cell? ⟨gb173, 0, none⟩ = some (.int .i64 a1_0) ∧ w36.cell? ⟨gb173, 1, none⟩ = some (.int .i64 a1_1) ∧ w36.cell? ⟨gb173, 2, none⟩ = some (.int .i64 a1_2) ∧ w36.cell? ⟨gb173, 3, none⟩ = some (.int .i64 a1_3) := hS_
          refine norm_ (a' := ?_) ?_ ?_
          rotate_left
          ·simp only [putAll, Act.put, List.setIfInBounds_toArray, List.set_cons_zero, List.set_cons_succ]
           rfl
          refine two_ (i := 6) (j := 9) (Ni := some 13) (Nj := some 6) #[true, true, true, true, true, true, true, false, false, false, false] #[true, true, true, true, true, true, false, false, false, true, false] rfl rfl rfl rfl (two_of HT_.out (by kernel_rfl)) (by decide) (by decide) (fun K hK => ?_) (fun K hK => ?_)
          ·skip
           refine Kd.R_lit_step k37 _ 37 ?hg (N := 13) ?hd (xs := ([(⟨a1_0, a1_1, a1_2, a1_3⟩ : S37)] : List (S37))) (inner := [.int .i64 a1_0, .int .i64 a1_1, .int .i64 a1_2, .int .i64 a1_3]) (ok := fun _ => True) (okp := fun _ => True) ?hr ?hp (fun _ hk => hk) trivial (Below.refl _ _) (Nat.le_refl _) (by simp) ?_; (case hd => rfl); (case hg => rfl); (case hr => first | (go_simp; done) | (go_simp; rfl)); (case hp => exact (Reps.c4 (show Kd.M k37 _ _ _ (⟨a1_0, a1_1, a1_2, a1_3⟩ : S37) [.int .i64 a1_0, .int .i64 a1_1, .int .i64 a1_2, .int .i64 a1_3] from (k37_mkM _ _ _ (⟨a1_0, a1_1, a1_2, a1_3⟩ : S37) )) (Reps.none _ _)))
           intro v179 w37 ho38 hb hg_ hnew_
           clear hg_ hnew_
           (first | rw [← Ny178.out] at ho38 | (simp only [Int.reduceToNat] at ho38; rw [← Ny178.out] at ho38))
           have HO180 := Aside0.mk (Kd.R_lower (Kd.R_newB (Kd.R_new' ho38 (Kd.R_lt (pr HO177))) (g := gb173) (o := .cells #[.int .i64 a1_0, .int .i64 a1_1, .int .i64 a1_2, .int .i64 a1_3] 37 (0, 0)) (pk BK173)) (below_size bw))
           replace HO177 := Aside0.mk (Kd.R_elder' (pr HO177) (Kd.R_base ho38) hb)
           replace BK172 := nk BK172 hb
           replace BK173 := nk BK173 hb
           replace BK174 := nk BK174 hb
           replace HB := bs hb
           clear hb ho38
           refine hK.out _ _ ⟨ec BK172, ec BK172, ec BK173, ec BK173, ec BK173, ec BK173⟩ (fun hHeld => ?_)
           clear hK K
           refine nm (some 13) ?_
           exact norm_ (by first | (simp only [putAll, Act.put, List.setIfInBounds_toArray, List.set_cons_zero, List.set_cons_succ]; done) | (simp only [putAll, Act.put, List.setIfInBounds_toArray, List.set_cons_zero, List.set_cons_succ]; rfl)) (hJ4_6 (v176, v179) _ ⟨hHeld, (by (with_reducible repeat (first | apply Kd.R_alloc | apply Kd.R_drewN | apply Kd.R_drew)); exact Kd.R_mono HO177.out (fun _ hk => ⟨hk.2, hk.1⟩)), (by (with_reducible repeat (first | apply Kd.R_alloc | apply Kd.R_drewN | apply Kd.R_drew)); exact Kd.R_mono HO180.out (fun _ hk => ⟨hk.1.2, hk.2⟩)), (pk BK172), (pk BK173), (pk BK174), bw⟩)
          ·skip
           refine box_step ?hg (N := 6) ?hd (cs := #[.int .i64 0, .slice none 0 0]) (t := 29) ?hr ?_; (case hd => rfl); (case hg => rfl); (case hr => first | (go_simp; done) | (go_simp; rfl))
           intro gb184 hg w37 hbox hb
           replace HO177 := Aside0.mk (Kd.R_below (pr HO177) hb)
           have BK184 := Aside0.mk (hbox)
           have GW184 := gs hg
           have GE184 := gs hg
           replace HB := bs hb
           have NB172_184 := nl BK172 hg
           have NB184_172 := ng BK172 hg
           replace BK172 := nk BK172 hb
           have NB173_184 := nl BK173 hg
           have NB184_173 := ng BK173 hg
           replace BK173 := nk BK173 hb
           have NB174_184 := nl BK174 hg
           have NB184_174 := ng BK174 hg
           replace BK174 := nk BK174 hb
           clear hb hbox hg
           refine hK.out _ _ ⟨ec BK172, ec BK172, ec BK173, ec BK173, ec BK173, ec BK173⟩ (fun hHeld => ?_)
           clear hK K
           refine nm (some 6) ?_
           exact norm_ (by first | (simp only [putAll, Act.put, List.setIfInBounds_toArray, List.set_cons_zero, List.set_cons_succ]; done) | (simp only [putAll, Act.put, List.setIfInBounds_toArray, List.set_cons_zero, List.set_cons_succ]; rfl)) (hJ4_9 (v176, gb184) _ ⟨hHeld, (pr HO177), (pk BK172), (pk BK173), (pk BK174), (pk BK184), GW184.out, GE184.out, NB172_184.out, NB184_172.out, NB173_184.out, NB184_173.out, NB174_184.out, NB184_174.out, bw⟩)
        ·skip
         rintro ⟨v179, gb184⟩ w38 ⟨hS_, h0_, h1_, h2_, h3_, h4_, h5_, h6_, h7_, h8_, h9_, h10_, h11_, h12_, h13_⟩
         have n0_ : Aside0 (Kd.R k37 37 w38 w.heap.size (fun k_ => k_ ≠ gb173) v179 y178) := ⟨h0_⟩
         have n1_ : Aside0 (w38.heap[gb172]? = some (.cells #[.int .i64 a0_0, .slice A0_1 l0_1.length c0_1] 29 (0, 0))) := ⟨h1_⟩
         have n2_ : Aside0 (w38.heap[gb173]? = some (.cells #[.int .i64 a1_0, .int .i64 a1_1, .int .i64 a1_2, .int .i64 a1_3] 37 (0, 0))) := ⟨h2_⟩
         have n3_ : Aside0 (w38.heap[gb174]? = some (.cells #[.int .i64 0, .slice none 0 0] 29 (0, 0))) := ⟨h3_⟩
         have n4_ : Aside0 (w38.heap[gb184]? = some (.cells #[.int .i64 0, .slice none 0 0] 29 (0, 0))) := ⟨h4_⟩
         have n5_ : Aside0 (w.heap.size ≤ gb184) := ⟨h5_⟩
         have n6_ : Aside0 (w.heap.size ≤ gb184) := ⟨h6_⟩
         have n7_ : Aside0 (gb172 ≠ gb184) := ⟨h7_⟩
         have n8_ : Aside0 (gb184 ≠ gb172) := ⟨h8_⟩
         have n9_ : Aside0 (gb173 ≠ gb184) := ⟨h9_⟩
         have n10_ : Aside0 (gb184 ≠ gb173) := ⟨h10_⟩
         have n11_ : Aside0 (gb174 ≠ gb184) := ⟨h11_⟩
         have n12_ : Aside0 (gb184 ≠ gb174) := ⟨h12_⟩
         have n13_ : Aside0 (Below w.heap.size w w38) := ⟨h13_⟩
         clear BK172
         clear BK173
         clear BK174
         clear HB
         clear h0_ h1_ h2_ h3_ h4_ h5_ h6_ h7_ h8_ h9_ h10_ h11_ h12_ h13_
         have HO180 := n0_
         have BK172 := n1_
         have BK173 := n2_
         have BK174 := n3_
         have BK184 := n4_
         have GW184 := n5_
         have GE184 := n6_
         have NB172_184 := n7_
         have NB184_172 := n8_
         have NB173_184 := n9_
         have NB184_173 := n10_
         have NB174_184 := n11_
         have NB184_174 := n12_
         have HB := n13_
         clear n0_ n1_ n2_ n3_ n4_ n5_ n6_ n7_ n8_ n9_ n10_ n11_ n12_ n13_
         have hHeld : w38.cell? ⟨gb172, 0, none⟩ = some (.int .i64 a0_0) ∧ w38.cell? ⟨gb172, 1, none⟩ = some (.slice A0_1 l0_1.length c0_1) ∧ w38.cell? ⟨gb173, 0, none⟩ = some (.int .i64 a1_0) ∧ w38.cell? ⟨gb173, 1, none⟩ = some (.int .i64 a1_1) ∧ w38.cell? ⟨gb173, 2, none⟩ = some (.int .i64 a1_2) ∧ w38.cell? ⟨gb173, 3, none⟩ = some (.int .i64 a1_3) := hS_
         refine norm_ (a' := ?_) ?_ ?_
         rotate_left
         ·simp only [putAll, Act.put, List.setIfInBounds_toArray, List.set_cons_zero, List.set_cons_succ]
          rfl
         refine one_ (i := 4) (N := some 11) #[true, true, true, true, true, true, true, false, false, true, false] rfl rfl (one_of HT_.out (by kernel_rfl)) (by decide) (fun K hK => ?_)
         refine goes_ Try.func24 (by kernel_rfl) rfl #[.slice A0_1 l0_1.length c0_1] (by rfl) rfl rfl (by (try simp only [List.map_toArray, List.map_cons, List.map_nil]); first | done | rfl | (simp only [List.length_drop, List.length_take]; rfl)) ?_
         with_reducible refine (impl_Clue_24.calls _ _ l0_1 t175 _ ?side1 ?side2 A3.out).mono ?_
         (case side1 => repeat (first | exact (Kd.C_below HR0_1.out HB.out) | (with_reducible refine Kd.C_alloc ?_ _) | (with_reducible refine Kd.C_drewN ?_ _) | (with_reducible refine Kd.C_drew ?_)))
         (case side2 => exact HC0_1.out)
         rintro e w39 ⟨v176, rfl, ho0, hb⟩
         refine ⟨_, rfl, ?_⟩
         have HO177 := Aside0.mk (Kd.R_lower (Kd.R_newB (Kd.R_new' ho0 (Kd.R_lt (pr HO180))) (g := gb173) (o := .cells #[.int .i64 a1_0, .int .i64 a1_1, .int .i64 a1_2, .int .i64 a1_3] 37 (0, 0)) (pk BK173)) (below_size bw))
         replace HO180 := Aside0.mk (Kd.R_elder' (pr HO180) (Kd.R_base ho0) hb)
         replace BK172 := nk BK172 hb
         replace BK173 := nk BK173 hb
         replace BK174 := nk BK174 hb
         replace BK184 := nk BK184 hb
         replace HB := bs hb
         (try clear hb)
         (try clear ho0)
         refine hK.out _ _ ⟨ec BK172, ec BK172, ec BK173, ec BK173, ec BK173, ec BK173⟩ (fun hHeld => ?_)
         clear hK K
         refine nm (some 11) ?_
         exact norm_ (by first | (simp only [putAll, Act.put, List.setIfInBounds_toArray, List.set_cons_zero, List.set_cons_succ]; done) | (simp only [putAll, Act.put, List.setIfInBounds_toArray, List.set_cons_zero, List.set_cons_succ]; rfl)) (hJ4_6_9 (v176, v179, gb184) _ ⟨hHeld, (by (with_reducible repeat (first | apply Kd.R_alloc | apply Kd.R_drewN | apply Kd.R_drew)); exact Kd.R_mono HO177.out (fun _ hk => ⟨hk.1.2, hk.2⟩)), (by (with_reducible repeat (first | apply Kd.R_alloc | apply Kd.R_drewN | apply Kd.R_drew)); exact Kd.R_mono HO180.out (fun _ hk => ⟨hk.2, hk.1⟩)), (pk BK172), (pk BK173), (pk BK174), (pk BK184), GW184.out, GE184.out, NB172_184.out, NB184_172.out, NB173_184.out, NB184_173.out, NB174_184.out, NB184_174.out, bw⟩)
       ·skip
        rintro ⟨v176, gb184⟩ w37 ⟨hS_, h0_, h1_, h2_, h3_, h4_, h5_, h6_, h7_, h8_, h9_, h10_, h11_, h12_, h13_⟩
        have n0_ : Aside0 (Kd.R k37 37 w37 w.heap.size (fun k_ => k_ ≠ gb173) v176 t175) := ⟨h0_⟩
        have n1_ : Aside0 (w37.heap[gb172]? = some (.cells #[.int .i64 a0_0, .slice A0_1 l0_1.length c0_1] 29 (0, 0))) := ⟨h1_⟩
        have n2_ : Aside0 (w37.heap[gb173]? = some (.cells #[.int .i64 a1_0, .int .i64 a1_1, .int .i64 a1_2, .int .i64 a1_3] 37 (0, 0))) := ⟨h2_⟩
        have n3_ : Aside0 (w37.heap[gb174]? = some (.cells #[.int .i64 0, .slice none 0 0] 29 (0, 0))) := ⟨h3_⟩
        have n4_ : Aside0 (w37.heap[gb184]? = some (.cells #[.int .i64 0, .slice none 0 0] 29 (0, 0))) := ⟨h4_⟩
        have n5_ : Aside0 (w.heap.size ≤ gb184) := ⟨h5_⟩
        have n6_ : Aside0 (w.heap.size ≤ gb184) := ⟨h6_⟩
        have n7_ : Aside0 (gb172 ≠ gb184) := ⟨h7_⟩
        have n8_ : Aside0 (gb184 ≠ gb172) := ⟨h8_⟩
        have n9_ : Aside0 (gb173 ≠ gb184) := ⟨h9_⟩
        have n10_ : Aside0 (gb184 ≠ gb173) := ⟨h10_⟩
        have n11_ : Aside0 (gb174 ≠ gb184) := ⟨h11_⟩
        have n12_ : Aside0 (gb184 ≠ gb174) := ⟨h12_⟩
        have n13_ : Aside0 (Below w.heap.size w w37) := ⟨h13_⟩
        clear BK172
        clear BK173
        clear BK174
        clear HB
        clear h0_ h1_ h2_ h3_ h4_ h5_ h6_ h7_ h8_ h9_ h10_ h11_ h12_ h13_
        have HO177 := n0_
        have BK172 := n1_
        have BK173 := n2_
        have BK174 := n3_
        have BK184 := n4_
        have GW184 := n5_
        have GE184 := n6_
        have NB172_184 := n7_
        have NB184_172 := n8_
        have NB173_184 := n9_
        have NB184_173 := n10_
        have NB174_184 := n11_
        have NB184_174 := n12_
        have HB := n13_
        clear n0_ n1_ n2_ n3_ n4_ n5_ n6_ n7_ n8_ n9_ n10_ n11_ n12_ n13_
        have hHeld : w37.cell? ⟨gb172, 0, none⟩ = some (.int .i64 a0_0) ∧ w37.cell? ⟨gb172, 1, none⟩ = some (.slice A0_1 l0_1.length c0_1) ∧ w37.cell? ⟨gb173, 0, none⟩ = some (.int .i64 a1_0) ∧ w37.cell? ⟨gb173, 1, none⟩ = some (.int .i64 a1_1) ∧ w37.cell? ⟨gb173, 2, none⟩ = some (.int .i64 a1_2) ∧ w37.cell? ⟨gb173, 3, none⟩ = some (.int .i64 a1_3) := hS_
        refine norm_ (a' := ?_) ?_ ?_
        rotate_left
        ·simp only [putAll, Act.put, List.setIfInBounds_toArray, List.set_cons_zero, List.set_cons_succ]
         rfl
        refine one_ (i := 6) (N := some 13) #[true, true, true, true, true, true, true, false, false, true, false] rfl rfl (one_of HT_.out (by kernel_rfl)) (by decide) (fun K hK => ?_)
        refine Kd.R_lit_step k37 _ 37 ?hg (N := 13) ?hd (xs := ([(⟨a1_0, a1_1, a1_2, a1_3⟩ : S37)] : List (S37))) (inner := [.int .i64 a1_0, .int .i64 a1_1, .int .i64 a1_2, .int .i64 a1_3]) (ok := fun _ => True) (okp := fun _ => True) ?hr ?hp (fun _ hk => hk) trivial (Below.refl _ _) (Nat.le_refl _) (by simp) ?_; (case hd => rfl); (case hg => rfl); (case hr => first | (go_simp; done) | (go_simp; rfl)); (case hp => exact (Reps.c4 (show Kd.M k37 _ _ _ (⟨a1_0, a1_1, a1_2, a1_3⟩ : S37) [.int .i64 a1_0, .int .i64 a1_1, .int .i64 a1_2, .int .i64 a1_3] from (k37_mkM _ _ _ (⟨a1_0, a1_1, a1_2, a1_3⟩ : S37) )) (Reps.none _ _)))
        intro v179 w38 ho39 hb hg_ hnew_
        clear hg_ hnew_
        (first | rw [← Ny178.out] at ho39 | (simp only [Int.reduceToNat] at ho39; rw [← Ny178.out] at ho39))
        have HO180 := Aside0.mk (Kd.R_lower (Kd.R_newB (Kd.R_new' ho39 (Kd.R_lt (pr HO177))) (g := gb173) (o := .cells #[.int .i64 a1_0, .int .i64 a1_1, .int .i64 a1_2, .int .i64 a1_3] 37 (0, 0)) (pk BK173)) (below_size bw))
        replace HO177 := Aside0.mk (Kd.R_elder' (pr HO177) (Kd.R_base ho39) hb)
        replace BK172 := nk BK172 hb
        replace BK173 := nk BK173 hb
        replace BK174 := nk BK174 hb
        replace BK184 := nk BK184 hb
        replace HB := bs hb
        clear hb ho39
        refine hK.out _ _ ⟨ec BK172, ec BK172, ec BK173, ec BK173, ec BK173, ec BK173⟩ (fun hHeld => ?_)
        clear hK K
        refine nm (some 13) ?_
        exact norm_ (by first | (simp only [putAll, Act.put, List.setIfInBounds_toArray, List.set_cons_zero, List.set_cons_succ]; done) | (simp only [putAll, Act.put, List.setIfInBounds_toArray, List.set_cons_zero, List.set_cons_succ]; rfl)) (hJ4_6_9 (v176, v179, gb184) _ ⟨hHeld, (by (with_reducible repeat (first | apply Kd.R_alloc | apply Kd.R_drewN | apply Kd.R_drew)); exact Kd.R_mono HO177.out (fun _ hk => ⟨hk.2, hk.1⟩)), (by (with_reducible repeat (first | apply Kd.R_alloc | apply Kd.R_drewN | apply Kd.R_drew)); exact Kd.R_mono HO180.out (fun _ hk => ⟨hk.1.2, hk.2⟩)), (pk BK172), (pk BK173), (pk BK174), (pk BK184), GW184.out, GE184.out, NB172_184.out, NB184_172.out, NB173_184.out, NB184_173.out, NB174_184.out, NB184_174.out, bw⟩)
      ·skip
       rintro ⟨v176, v179⟩ w38 ⟨hS_, h0_, h1_, h2_, h3_, h4_, h5_⟩
       have n0_ : Aside0 (Kd.R k37 37 w38 w.heap.size (fun k_ => some k_ ≠ (v179 : Value).ownBlock ∧ k_ ≠ gb173) v176 t175) := ⟨h0_⟩
       have n1_ : Aside0 (Kd.R k37 37 w38 w.heap.size (fun k_ => some k_ ≠ (v176 : Value).ownBlock ∧ k_ ≠ gb173) v179 y178) := ⟨h1_⟩
       have n2_ : Aside0 (w38.heap[gb172]? = some (.cells #[.int .i64 a0_0, .slice A0_1 l0_1.length c0_1] 29 (0, 0))) := ⟨h2_⟩
       have n3_ : Aside0 (w38.heap[gb173]? = some (.cells #[.int .i64 a1_0, .int .i64 a1_1, .int .i64 a1_2, .int .i64 a1_3] 37 (0, 0))) := ⟨h3_⟩
       have n4_ : Aside0 (w38.heap[gb174]? = some (.cells #[.int .i64 0, .slice none 0 0] 29 (0, 0))) := ⟨h4_⟩
       have n5_ : Aside0 (Below w.heap.size w w38) := ⟨h5_⟩
       clear BK172
       clear BK173
       clear BK174
       clear HB
       clear h0_ h1_ h2_ h3_ h4_ h5_
       have HO177 := n0_
       have HO180 := n1_
       have BK172 := n2_
       have BK173 := n3_
       have BK174 := n4_
       have HB := n5_
       clear n0_ n1_ n2_ n3_ n4_ n5_
       have hHeld : w38.cell? ⟨gb172, 0, none⟩ = some (.int .i64 a0_0) ∧ w38.cell? ⟨gb172, 1, none⟩ = some (.slice A0_1 l0_1.length c0_1) ∧ w38.cell? ⟨gb173, 0, none⟩ = some (.int .i64 a1_0) ∧ w38.cell? ⟨gb173, 1, none⟩ = some (.int .i64 a1_1) ∧ w38.cell? ⟨gb173, 2, none⟩ = some (.int .i64 a1_2) ∧ w38.cell? ⟨gb173, 3, none⟩ = some (.int .i64 a1_3) := hS_
       obtain ⟨Ao40, co40, eo40⟩ := Kd.R_slice HO180.out
       (first | subst eo40 | (injection eo40 with f1_ f2_ f3_; have f4_ := f1_.symm; have f5_ := f3_.symm; clear f1_ f2_ f3_; subst f4_; subst f5_))
       refine norm_ (a' := ?_) ?_ ?_
       rotate_left
       ·simp only [putAll, Act.put, List.setIfInBounds_toArray, List.set_cons_zero, List.set_cons_succ]
        rfl
       refine two_ (i := 7) (j := 9) (Ni := some 14) (Nj := some 6) #[true, true, true, true, true, true, true, true, false, false, false] #[true, true, true, true, true, true, true, false, false, true, false] rfl rfl rfl rfl (two_of HT_.out (by kernel_rfl)) (by decide) (by decide) (fun K hK => ?_) (fun K hK => ?_)
       ·skip
        refine Kd.R_append_rows_step k37 (w0 := w) w.heap.size (by rfl) (.tmp 11) (.tmp 13) 27 37 (.agg #[(.int .i64 0), (.int .i64 0), (.int .i64 0), (.int .i64 0)]) 32 rfl Try.underlying27 info37 rfl (by decide) (by omega) v176 t175 y178 _ _ _ (fun k_ => some k_ ≠ (.slice Ao40 y178.length co40 : Value).ownBlock ∧ k_ ≠ gb173) (fun _ => False) rfl rfl ?aO ?aR (fun _ _ h => h) (fun _ h => h.elim) ?aF ?aB ?aS ?aL ?_
        (case aR => repeat (first | exact (Kd.R_reads' HO180.out).2.2 | (with_reducible refine Kd.C_alloc ?_ _) | (with_reducible refine Kd.C_drewN ?_ _) | (with_reducible refine Kd.C_drew ?_)))
        (case aB => exact bw)
        (case aF => exact (fun k_ hk => ⟨Kd.fresh' (Kd.R_lt (pr HO180)) k_ hk, Kd.freshB (g := gb173) (o := .cells #[.int .i64 a1_0, .int .i64 a1_1, .int .i64 a1_2, .int .i64 a1_3] 37 (0, 0)) (pk BK173) k_ hk⟩))
        (case aO => exact (pr HO177))
        (case aS => exact (below_size bw))
        (case aL => have := LMc4.out; omega)
        intro v182 w39 ho hb hg hat
        rw [← Ny181.out] at ho
        have n0_ := Aside0.mk (blk_grown (pk BK172) hg (Kd.R_ne HO177.out BK172.out (by decide)))
        have n1_ := Aside0.mk (blk_grown (pk BK173) hg (Kd.R_away HO177.out (fun _ hk => hk.2)))
        have n2_ := Aside0.mk (blk_grown (pk BK174) hg (Kd.R_ne HO177.out BK174.out (by decide)))
        have n3_ := Aside0.mk (Kd.R_after (ok := (fun k_ => k_ ≠ gb173)) (by (with_reducible repeat (first | apply Kd.R_alloc | apply Kd.R_drewN | apply Kd.R_drew)); exact Kd.R_mono HO180.out (fun _ hk => ⟨hk.2, hk.1⟩)) hg hat)
        have n4_ := Aside0.mk (hb)
        have n5_ := Aside0.mk (ho)
        clear BK172
        clear BK173
        clear BK174
        clear HO180
        clear HB
        clear HO177
        have BK172 := n0_
        have BK173 := n1_
        have BK174 := n2_
        have HO180 := n3_
        have HB := n4_
        have HO183 := n5_
        clear n0_ n1_ n2_ n3_ n4_ n5_
        clear ho hb hg hat
        obtain ⟨Ao41, co41, eo41⟩ := Kd.R_slice HO183.out
        (first | subst eo41 | (injection eo41 with f1_ f2_ f3_; have f4_ := f1_.symm; have f5_ := f3_.symm; clear f1_ f2_ f3_; subst f4_; subst f5_))
        refine hK.out _ _ ⟨ec BK172, ec BK172, ec BK173, ec BK173, ec BK173, ec BK173⟩ (fun hHeld => ?_)
        clear hK K
        refine nm (some 14) ?_
        refine pu 8 (some 15) #[true, true, true, true, true, true, true, true, true, false, false] ?_
        exact norm_ (by first | (simp only [putAll, Act.put, List.setIfInBounds_toArray, List.set_cons_zero, List.set_cons_succ]; done) | (simp only [putAll, Act.put, List.setIfInBounds_toArray, List.set_cons_zero, List.set_cons_succ]; rfl)) (hJ4_6_7 (v176, .slice Ao40 y178.length co40, .slice Ao41 y181.length co41) _ ⟨hHeld, (by (with_reducible repeat (first | apply Kd.R_alloc | apply Kd.R_drewN | apply Kd.R_drew)); exact Kd.R_mono HO180.out (fun _ hk => ⟨hk.2, hk.1⟩)), (pr HO183), (pk BK172), (pk BK173), (pk BK174), bw⟩)
       ·skip
        refine box_step ?hg (N := 6) ?hd (cs := #[.int .i64 0, .slice none 0 0]) (t := 29) ?hr ?_; (case hd => rfl); (case hg => rfl); (case hr => first | (go_simp; done) | (go_simp; rfl))
        intro gb184 hg w39 hbox hb
        replace HO177 := Aside0.mk (Kd.R_below (pr HO177) hb)
        replace HO180 := Aside0.mk (Kd.R_below (pr HO180) hb)
        have BK184 := Aside0.mk (hbox)
        have GW184 := gs hg
        have GE184 := gs hg
        replace HB := bs hb
        have NB172_184 := nl BK172 hg
        have NB184_172 := ng BK172 hg
        replace BK172 := nk BK172 hb
        have NB173_184 := nl BK173 hg
        have NB184_173 := ng BK173 hg
        replace BK173 := nk BK173 hb
        have NB174_184 := nl BK174 hg
        have NB184_174 := ng BK174 hg
        replace BK174 := nk BK174 hb
        clear hb hbox hg
        refine hK.out _ _ ⟨ec BK172, ec BK172, ec BK173, ec BK173, ec BK173, ec BK173⟩ (fun hHeld => ?_)
        clear hK K
        refine nm (some 6) ?_
        exact norm_ (by first | (simp only [putAll, Act.put, List.setIfInBounds_toArray, List.set_cons_zero, List.set_cons_succ]; done) | (simp only [putAll, Act.put, List.setIfInBounds_toArray, List.set_cons_zero, List.set_cons_succ]; rfl)) (hJ4_6_9 (v176, .slice Ao40 y178.length co40, gb184) _ ⟨hHeld, (pr HO177), (pr HO180), (pk BK172), (pk BK173), (pk BK174), (pk BK184), GW184.out, GE184.out, NB172_184.out, NB184_172.out, NB173_184.out, NB184_173.out, NB174_184.out, NB184_174.out, bw⟩)
     ·skip
      rintro ⟨v176, v179, gb184⟩ w39 ⟨hS_, h0_, h1_, h2_, h3_, h4_, h5_, h6_, h7_, h8_, h9_, h10_, h11_, h12_, h13_, h14_⟩
      have n0_ : Aside0 (Kd.R k37 37 w39 w.heap.size (fun k_ => some k_ ≠ (v179 : Value).ownBlock ∧ k_ ≠ gb173) v176 t175) := ⟨h0_⟩
      have n1_ : Aside0 (Kd.R k37 37 w39 w.heap.size (fun k_ => some k_ ≠ (v176 : Value).ownBlock ∧ k_ ≠ gb173) v179 y178) := ⟨h1_⟩
      have n2_ : Aside0 (w39.heap[gb172]? = some (.cells #[.int .i64 a0_0, .slice A0_1 l0_1.length c0_1] 29 (0, 0))) := ⟨h2_⟩
      have n3_ : Aside0 (w39.heap[gb173]? = some (.cells #[.int .i64 a1_0, .int .i64 a1_1, .int .i64 a1_2, .int .i64 a1_3] 37 (0, 0))) := ⟨h3_⟩
      have n4_ : Aside0 (w39.heap[gb174]? = some (.cells #[.int .i64 0, .slice none 0 0] 29 (0, 0))) := ⟨h4_⟩
      have n5_ : Aside0 (w39.heap[gb184]? = some (.cells #[.int .i64 0, .slice none 0 0] 29 (0, 0))) := ⟨h5_⟩
      have n6_ : Aside0 (w.heap.size ≤ gb184) := ⟨h6_⟩
      have n7_ : Aside0 (w.heap.size ≤ gb184) := ⟨h7_⟩
      have n8_ : Aside0 (gb172 ≠ gb184) := ⟨h8_⟩
      have n9_ : Aside0 (gb184 ≠ gb172) := ⟨h9_⟩
      have n10_ : Aside0 (gb173 ≠ gb184) := ⟨h10_⟩
      have n11_ : Aside0 (gb184 ≠ gb173) := ⟨h11_⟩
      have n12_ : Aside0 (gb174 ≠ gb184) := ⟨h12_⟩
      have n13_ : Aside0 (gb184 ≠ gb174) := ⟨h13_⟩
      have n14_ : Aside0 (Below w.heap.size w w39) := ⟨h14_⟩
      clear BK172
      clear BK173
      clear BK174
      clear HB
      clear h0_ h1_ h2_ h3_ h4_ h5_ h6_ h7_ h8_ h9_ h10_ h11_ h12_ h13_ h14_
      have HO177 := n0_
      have HO180 := n1_
      have BK172 := n2_
      have BK173 := n3_
      have BK174 := n4_
      have BK184 := n5_
      have GW184 := n6_
      have GE184 := n7_
      have NB172_184 := n8_
      have NB184_172 := n9_
      have NB173_184 := n10_
      have NB184_173 := n11_
      have NB174_184 := n12_
      have NB184_174 := n13_
      have HB := n14_
      clear n0_ n1_ n2_ n3_ n4_ n5_ n6_ n7_ n8_ n9_ n10_ n11_ n12_ n13_ n14_
      have hHeld : w39.cell? ⟨gb172, 0, none⟩ = some (.int .i64 a0_0) ∧ w39.cell? ⟨gb172, 1, none⟩ = some (.slice A0_1 l0_1.length c0_1) ∧ w39.cell? ⟨gb173, 0, none⟩ = some (.int .i64 a1_0) ∧ w39.cell? ⟨gb173, 1, none⟩ = some (.int .i64 a1_1) ∧ w39.cell? ⟨gb173, 2, none⟩ = some (.int .i64 a1_2) ∧ w39.cell? ⟨gb173, 3, none⟩ = some (.int .i64 a1_3) := hS_
      obtain ⟨Ao41, co41, eo41⟩ := Kd.R_slice HO180.out
      (first | subst eo41 | (injection eo41 with f1_ f2_ f3_; have f4_ := f1_.symm; have f5_ := f3_.symm; clear f1_ f2_ f3_; subst f4_; subst f5_))
      refine norm_ (a' := ?_) ?_ ?_
      rotate_left
      ·simp only [putAll, Act.put, List.setIfInBounds_toArray, List.set_cons_zero, List.set_cons_succ]
       rfl
      refine one_ (i := 7) (N := some 14) #[true, true, true, true, true, true, true, true, false, true, false] rfl rfl (one_of HT_.out (by kernel_rfl)) (by decide) (fun K hK => ?_)
      refine Kd.R_append_rows_step k37 (w0 := w) w.heap.size (by rfl) (.tmp 11) (.tmp 13) 27 37 (.agg #[(.int .i64 0), (.int .i64 0), (.int .i64 0), (.int .i64 0)]) 32 rfl Try.underlying27 info37 rfl (by decide) (by omega) v176 t175 y178 _ _ _ (fun k_ => some k_ ≠ (.slice Ao41 y178.length co41 : Value).ownBlock ∧ k_ ≠ gb173) (fun _ => False) rfl rfl ?aO ?aR (fun _ _ h => h) (fun _ h => h.elim) ?aF ?aB ?aS ?aL ?_
      (case aR => repeat (first | exact (Kd.R_reads' HO180.out).2.2 | (with_reducible refine Kd.C_alloc ?_ _) | (with_reducible refine Kd.C_drewN ?_ _) | (with_reducible refine Kd.C_drew ?_)))
      (case aB => exact bw)
      (case aF => exact (fun k_ hk => ⟨Kd.fresh' (Kd.R_lt (pr HO180)) k_ hk, Kd.freshB (g := gb173) (o := .cells #[.int .i64 a1_0, .int .i64 a1_1, .int .i64 a1_2, .int .i64 a1_3] 37 (0, 0)) (pk BK173) k_ hk⟩))
      (case aO => exact (pr HO177))
      (case aS => exact (below_size bw))
      (case aL => have := LMc4.out; omega)
      intro v182 w40 ho hb hg hat
      rw [← Ny181.out] at ho
      have n0_ := Aside0.mk (blk_grown (pk BK172) hg (Kd.R_ne HO177.out BK172.out (by decide)))
      have n1_ := Aside0.mk (blk_grown (pk BK173) hg (Kd.R_away HO177.out (fun _ hk => hk.2)))
      have n2_ := Aside0.mk (blk_grown (pk BK174) hg (Kd.R_ne HO177.out BK174.out (by decide)))
      have n3_ := Aside0.mk (Kd.R_after (ok := (fun k_ => k_ ≠ gb173)) (by (with_reducible repeat (first | apply Kd.R_alloc | apply Kd.R_drewN | apply Kd.R_drew)); exact Kd.R_mono HO180.out (fun _ hk => ⟨hk.2, hk.1⟩)) hg hat)
      have n4_ := Aside0.mk (blk_grown (pk BK184) hg (Kd.R_ne HO177.out BK184.out (by decide)))
      have n5_ := Aside0.mk (hb)
      have n6_ := Aside0.mk (ho)
      clear BK172
      clear BK173
      clear BK174
      clear HO180
      clear BK184
      clear HB
      clear HO177
      have BK172 := n0_
      have BK173 := n1_
      have BK174 := n2_
      have HO180 := n3_
      have BK184 := n4_
      have HB := n5_
      have HO183 := n6_
      clear n0_ n1_ n2_ n3_ n4_ n5_ n6_
      clear ho hb hg hat
      obtain ⟨Ao42, co42, eo42⟩ := Kd.R_slice HO183.out
      (first | subst eo42 | (injection eo42 with f1_ f2_ f3_; have f4_ := f1_.symm; have f5_ := f3_.symm; clear f1_ f2_ f3_; subst f4_; subst f5_))
      refine hK.out _ _ ⟨ec BK172, ec BK172, ec BK173, ec BK173, ec BK173, ec BK173⟩ (fun hHeld => ?_)
      clear hK K
      refine nm (some 14) ?_
      refine pu 8 (some 15) #[true, true, true, true, true, true, true, true, true, true, false] ?_
      exact norm_ (by first | (simp only [putAll, Act.put, List.setIfInBounds_toArray, List.set_cons_zero, List.set_cons_succ]; done) | (simp only [putAll, Act.put, List.setIfInBounds_toArray, List.set_cons_zero, List.set_cons_succ]; rfl)) (hJ4_6_7_9 (v176, .slice Ao41 y178.length co41, .slice Ao42 y181.length co42, gb184) _ ⟨hHeld, (by (with_reducible repeat (first | apply Kd.R_alloc | apply Kd.R_drewN | apply Kd.R_drew)); exact Kd.R_mono HO180.out (fun _ hk => ⟨hk.2, hk.1⟩)), (pr HO183), (pk BK172), (pk BK173), (pk BK174), (pk BK184), GW184.out, GE184.out, NB172_184.out, NB184_172.out, NB173_184.out, NB184_173.out, NB174_184.out, NB184_174.out, bw⟩)
    ·skip
     rintro ⟨v176, v179, v182⟩ w41 ⟨hS_, h0_, h1_, h2_, h3_, h4_, h5_⟩
     have n0_ : Aside0 (Kd.R k37 37 w41 w.heap.size (fun k_ => some k_ ≠ (v182 : Value).ownBlock ∧ k_ ≠ gb173) v179 y178) := ⟨h0_⟩
     have n1_ : Aside0 (Kd.R k37 37 w41 w.heap.size (fun k_ => some k_ ≠ (v179 : Value).ownBlock ∧ k_ ≠ gb173) v182 y181) := ⟨h1_⟩
     have n2_ : Aside0 (w41.heap[gb172]? = some (.cells #[.int .i64 a0_0, .slice A0_1 l0_1.length c0_1] 29 (0, 0))) := ⟨h2_⟩
     have n3_ : Aside0 (w41.heap[gb173]? = some (.cells #[.int .i64 a1_0, .int .i64 a1_1, .int .i64 a1_2, .int .i64 a1_3] 37 (0, 0))) := ⟨h3_⟩
     have n4_ : Aside0 (w41.heap[gb174]? = some (.cells #[.int .i64 0, .slice none 0 0] 29 (0, 0))) := ⟨h4_⟩
     have n5_ : Aside0 (Below w.heap.size w w41) := ⟨h5_⟩
     clear BK172
     clear BK173
     clear BK174
     clear HB
     clear h0_ h1_ h2_ h3_ h4_ h5_
     have HO180 := n0_
     have HO183 := n1_
     have BK172 := n2_
     have BK173 := n3_
     have BK174 := n4_
     have HB := n5_
     clear n0_ n1_ n2_ n3_ n4_ n5_
     have hHeld : w41.cell? ⟨gb172, 0, none⟩ = some (.int .i64 a0_0) ∧ w41.cell? ⟨gb172, 1, none⟩ = some (.slice A0_1 l0_1.length c0_1) ∧ w41.cell? ⟨gb173, 0, none⟩ = some (.int .i64 a1_0) ∧ w41.cell? ⟨gb173, 1, none⟩ = some (.int .i64 a1_1) ∧ w41.cell? ⟨gb173, 2, none⟩ = some (.int .i64 a1_2) ∧ w41.cell? ⟨gb173, 3, none⟩ = some (.int .i64 a1_3) := hS_
     obtain ⟨Ao42, co42, eo42⟩ := Kd.R_slice HO183.out
     (first | subst eo42 | (injection eo42 with f1_ f2_ f3_; have f4_ := f1_.symm; have f5_ := f3_.symm; clear f1_ f2_ f3_; subst f4_; subst f5_))
     refine norm_ (a' := ?_) ?_ ?_
     rotate_left
     ·simp only [putAll, Act.put, List.setIfInBounds_toArray, List.set_cons_zero, List.set_cons_succ]
      rfl
     refine one_ (i := 9) (N := some 6) #[true, true, true, true, true, true, true, true, true, true, false] rfl rfl (one_of HT_.out (by kernel_rfl)) (by decide) (fun K hK => ?_)
     refine box_step ?hg (N := 6) ?hd (cs := #[.int .i64 0, .slice none 0 0]) (t := 29) ?hr ?_; (case hd => rfl); (case hg => rfl); (case hr => first | (go_simp; done) | (go_simp; rfl))
     intro gb184 hg w43 hbox hb
     replace HO180 := Aside0.mk (Kd.R_below (pr HO180) hb)
     replace HO183 := Aside0.mk (Kd.R_below (pr HO183) hb)
     have BK184 := Aside0.mk (hbox)
     have GW184 := gs hg
     have GE184 := gs hg
     replace HB := bs hb
     have NB172_184 := nl BK172 hg
     have NB184_172 := ng BK172 hg
     replace BK172 := nk BK172 hb
     have NB173_184 := nl BK173 hg
     have NB184_173 := ng BK173 hg
     replace BK173 := nk BK173 hb
     have NB174_184 := nl BK174 hg
     have NB184_174 := ng BK174 hg
     replace BK174 := nk BK174 hb
     clear hb hbox hg
     refine hK.out _ _ ⟨ec BK172, ec BK172, ec BK173, ec BK173, ec BK173, ec BK173⟩ (fun hHeld => ?_)
     clear hK K
     refine nm (some 6) ?_
     exact norm_ (by first | (simp only [putAll, Act.put, List.setIfInBounds_toArray, List.set_cons_zero, List.set_cons_succ]; done) | (simp only [putAll, Act.put, List.setIfInBounds_toArray, List.set_cons_zero, List.set_cons_succ]; rfl)) (hJ4_6_7_9 (v176, v179, .slice Ao42 y181.length co42, gb184) _ ⟨hHeld, (pr HO180), (pr HO183), (pk BK172), (pk BK173), (pk BK174), (pk BK184), GW184.out, GE184.out, NB172_184.out, NB184_172.out, NB173_184.out, NB184_173.out, NB174_184.out, NB184_174.out, bw⟩)
   rintro ⟨v176, v179, v182, gb184⟩ w42 ⟨hS_, h0_, h1_, h2_, h3_, h4_, h5_, h6_, h7_, h8_, h9_, h10_, h11_, h12_, h13_, h14_⟩
   have n0_ : Aside0 (Kd.R k37 37 w42 w.heap.size (fun k_ => some k_ ≠ (v182 : Value).ownBlock ∧ k_ ≠ gb173) v179 y178) := ⟨h0_⟩
   have n1_ : Aside0 (Kd.R k37 37 w42 w.heap.size (fun k_ => some k_ ≠ (v179 : Value).ownBlock ∧ k_ ≠ gb173) v182 y181) := ⟨h1_⟩
   have n2_ : Aside0 (w42.heap[gb172]? = some (.cells #[.int .i64 a0_0, .slice A0_1 l0_1.length c0_1] 29 (0, 0))) := ⟨h2_⟩
   have n3_ : Aside0 (w42.heap[gb173]? = some (.cells #[.int .i64 a1_0, .int .i64 a1_1, .int .i64 a1_2, .int .i64 a1_3] 37 (0, 0))) := ⟨h3_⟩
   have n4_ : Aside0 (w42.heap[gb174]? = some (.cells #[.int .i64 0, .slice none 0 0] 29 (0, 0))) := ⟨h4_⟩
   have n5_ : Aside0 (w42.heap[gb184]? = some (.cells #[.int .i64 0, .slice none 0 0] 29 (0, 0))) := ⟨h5_⟩
   have n6_ : Aside0 (w.heap.size ≤ gb184) := ⟨h6_⟩
   have n7_ : Aside0 (w.heap.size ≤ gb184) := ⟨h7_⟩
   have n8_ : Aside0 (gb172 ≠ gb184) := ⟨h8_⟩
   have n9_ : Aside0 (gb184 ≠ gb172) := ⟨h9_⟩
   have n10_ : Aside0 (gb173 ≠ gb184) := ⟨h10_⟩
   have n11_ : Aside0 (gb184 ≠ gb173) := ⟨h11_⟩
   have n12_ : Aside0 (gb174 ≠ gb184) := ⟨h12_⟩
   have n13_ : Aside0 (gb184 ≠ gb174) := ⟨h13_⟩
   have n14_ : Aside0 (Below w.heap.size w w42) := ⟨h14_⟩
   clear BK172
   clear BK173
   clear BK174
   clear HB
   clear h0_ h1_ h2_ h3_ h4_ h5_ h6_ h7_ h8_ h9_ h10_ h11_ h12_ h13_ h14_
   have HO180 := n0_
   have HO183 := n1_
   have BK172 := n2_
   have BK173 := n3_
   have BK174 := n4_
   have BK184 := n5_
   have GW184 := n6_
   have GE184 := n7_
   have NB172_184 := n8_
   have NB184_172 := n9_
   have NB173_184 := n10_
   have NB184_173 := n11_
   have NB174_184 := n12_
   have NB184_174 := n13_
   have HB := n14_
   clear n0_ n1_ n2_ n3_ n4_ n5_ n6_ n7_ n8_ n9_ n10_ n11_ n12_ n13_ n14_
   have hHeld : w42.cell? ⟨gb172, 0, none⟩ = some (.int .i64 a0_0) ∧ w42.cell? ⟨gb172, 1, none⟩ = some (.slice A0_1 l0_1.length c0_1) ∧ w42.cell? ⟨gb173, 0, none⟩ = some (.int .i64 a1_0) ∧ w42.cell? ⟨gb173, 1, none⟩ = some (.int .i64 a1_1) ∧ w42.cell? ⟨gb173, 2, none⟩ = some (.int .i64 a1_2) ∧ w42.cell? ⟨gb173, 3, none⟩ = some (.int .i64 a1_3) := hS_
   obtain ⟨Ao43, co43, eo43⟩ := Kd.R_slice HO183.out
   (first | subst eo43 | (injection eo43 with f1_ f2_ f3_; have f4_ := f1_.symm; have f5_ := f3_.symm; clear f1_ f2_ f3_; subst f4_; subst f5_))
   refine norm_ (a' := ?_) ?_ ?_
   rotate_left
   ·simp only [putAll, Act.put, List.setIfInBounds_toArray, List.set_cons_zero, List.set_cons_succ]
    rfl
   refine one_ (i := 10) (N := none) #[true, true, true, true, true, true, true, true, true, true, true] rfl rfl (one_of HT_.out (by kernel_rfl)) (by decide) (fun K hK => ?_)
   have hs44 : w42.cell? ⟨gb184, 0, none⟩ = some (.int .i64 0) := ec BK184
   have hfs44 := blk_frozen BK184.out 0
   have hns44_0 := NB172_184.out
   have hns44_1 := NB173_184.out
   have hns44_2 := NB174_184.out
   have hms44_0 := NB184_172.out
   have hms44_1 := NB184_173.out
   have hms44_2 := NB184_174.out
   have hs45 : w42.cell? ⟨gb184, 1, none⟩ = some (.slice none 0 0) := ec BK184
   have hfs45 := blk_frozen BK184.out 1
   have hns45_0 := NB172_184.out
   have hns45_1 := NB173_184.out
   have hns45_2 := NB174_184.out
   have hms45_0 := NB184_172.out
   have hms45_1 := NB184_173.out
   have hms45_2 := NB184_174.out
   refine skip_ (w1 := ?_) (by rfl) rfl ?_ ?_
   rotate_left
   ·go_simp
    rfl
   refine hK.out _ _ ⟨((cell_far (p := ⟨gb184, _, none⟩) NB172_184.out _).trans (((cell_far (p := ⟨gb184, _, none⟩) NB172_184.out _).trans (hHeld.1)))), ((cell_far (p := ⟨gb184, _, none⟩) NB172_184.out _).trans (((cell_far (p := ⟨gb184, _, none⟩) NB172_184.out _).trans (hHeld.2.1)))), ((cell_far (p := ⟨gb184, _, none⟩) NB173_184.out _).trans (((cell_far (p := ⟨gb184, _, none⟩) NB173_184.out _).trans (hHeld.2.2.1)))), ((cell_far (p := ⟨gb184, _, none⟩) NB173_184.out _).trans (((cell_far (p := ⟨gb184, _, none⟩) NB173_184.out _).trans (hHeld.2.2.2.1)))), ((cell_far (p := ⟨gb184, _, none⟩) NB173_184.out _).trans (((cell_far (p := ⟨gb184, _, none⟩) NB173_184.out _).trans (hHeld.2.2.2.2.1)))), ((cell_far (p := ⟨gb184, _, none⟩) NB173_184.out _).trans (((cell_far (p := ⟨gb184, _, none⟩) NB173_184.out _).trans (hHeld.2.2.2.2.2))))⟩ (fun hHeld => ?_)
   clear hK K
   refine done_ (done_of HT_.out (by kernel_rfl)) ?_
   have hnb46 := NB184_172.out
   have hnc46 := NB172_184.out
   have hnb47 := NB184_173.out
   have hnc47 := NB173_184.out
   have hnb48 := NB184_174.out
   have hnc48 := NB174_184.out
   have hcz49_0 := bc BK184 0 (.int .i64 0)
   have hcz49_1 := bc BK184 1 (.slice none 0 0)
   have hfz49_0 := blk_frozen BK184.out 0
   have hfz49_1 := blk_frozen BK184.out 1
   try go_wp2_with (first | ((with_reducible refine gate_callee (f := 21) rfl ?_); refine gl (some 17) Try.func21 #[.agg #[.int .i64 a0_0, .slice Ao43 y181.length co43]] ?_; (with_reducible refine (impl_isPuzzle.calls k a0_0 _ _ y181 false _ ?side1 ?side2 A5.out).mono ?_); (case side1 => refine (Kd.R_reads' (e := 37) (base := w.heap.size) (ok := fun k_ => (some k_ ≠ (v179 : Value).ownBlock ∧ k_ ≠ gb173)) (n := y181.length) (c := co43) ?_).2.2; exact (by (with_reducible repeat (first | apply Kd.R_alloc | apply Kd.R_drewN | apply Kd.R_drew)); exact (Kd.R_mono (Kd.R_far (p := ⟨gb184, 1, none⟩) (Kd.R_far (p := ⟨gb184, 0, none⟩) (Kd.R_types HO183.out BK184.out (by decide)) (fun _ hk => hk.2) (.int .i64 a0_0)) (fun _ hk => hk.2) (.slice Ao43 y181.length co43)) (fun _ h_ => h_.1)))); (case side2 => exact (Kd.R_reads' HO183.out).2.1); rintro e w50 ⟨rfl, hb⟩; refine ⟨_, rfl, ?_⟩; replace HO180 := Aside0.mk (Kd.R_below (by (with_reducible repeat (first | apply Kd.R_alloc | apply Kd.R_drewN | apply Kd.R_drew)); exact (Kd.R_mono (Kd.R_far (p := ⟨gb184, 1, none⟩) (Kd.R_far (p := ⟨gb184, 0, none⟩) (Kd.R_types HO180.out BK184.out (by decide)) (fun _ hk => hk.2) (.int .i64 a0_0)) (fun _ hk => hk.2) (.slice Ao43 y181.length co43)) (fun _ h_ => h_.1))) hb); replace HO183 := Aside0.mk (Kd.R_below (by (with_reducible repeat (first | apply Kd.R_alloc | apply Kd.R_drewN | apply Kd.R_drew)); exact (Kd.R_mono (Kd.R_far (p := ⟨gb184, 1, none⟩) (Kd.R_far (p := ⟨gb184, 0, none⟩) (Kd.R_types HO183.out BK184.out (by decide)) (fun _ hk => hk.2) (.int .i64 a0_0)) (fun _ hk => hk.2) (.slice Ao43 y181.length co43)) (fun _ h_ => h_.1))) hb); replace BK172 := Aside0.mk (blk_below (g := gb172) (o := .cells #[.int .i64 a0_0, .slice A0_1 l0_1.length c0_1] 29 (0, 0)) (by (with_reducible repeat (first | refine blk_drewN ?_ _ | refine blk_drew ?_ | refine blk_alloc ?_ _)); refine blk_far ?_ NB172_184.out _; (with_reducible repeat (first | refine blk_drewN ?_ _ | refine blk_drew ?_ | refine blk_alloc ?_ _)); refine blk_far ?_ NB172_184.out _; (with_reducible repeat (first | refine blk_drewN ?_ _ | refine blk_drew ?_ | refine blk_alloc ?_ _)); exact BK172.out) hb); replace BK173 := Aside0.mk (blk_below (g := gb173) (o := .cells #[.int .i64 a1_0, .int .i64 a1_1, .int .i64 a1_2, .int .i64 a1_3] 37 (0, 0)) (by (with_reducible repeat (first | refine blk_drewN ?_ _ | refine blk_drew ?_ | refine blk_alloc ?_ _)); refine blk_far ?_ NB173_184.out _; (with_reducible repeat (first | refine blk_drewN ?_ _ | refine blk_drew ?_ | refine blk_alloc ?_ _)); refine blk_far ?_ NB173_184.out _; (with_reducible repeat (first | refine blk_drewN ?_ _ | refine blk_drew ?_ | refine blk_alloc ?_ _)); exact BK173.out) hb); replace BK174 := Aside0.mk (blk_below (g := gb174) (o := .cells #[.int .i64 0, .slice none 0 0] 29 (0, 0)) (by (with_reducible repeat (first | refine blk_drewN ?_ _ | refine blk_drew ?_ | refine blk_alloc ?_ _)); refine blk_far ?_ NB174_184.out _; (with_reducible repeat (first | refine blk_drewN ?_ _ | refine blk_drew ?_ | refine blk_alloc ?_ _)); refine blk_far ?_ NB174_184.out _; (with_reducible repeat (first | refine blk_drewN ?_ _ | refine blk_drew ?_ | refine blk_alloc ?_ _)); exact BK174.out) hb); replace BK184 := Aside0.mk (blk_below (g := gb184) (o := .cells #[.int .i64 a0_0, .slice Ao43 y181.length co43] 29 (0, 0)) (by (with_reducible repeat (first | refine blk_drewN ?_ _ | refine blk_drew ?_ | refine blk_alloc ?_ _)); refine blk_put (cs := #[.int .i64 a0_0, .slice none 0 0]) ?_ 1 _ rfl; (with_reducible repeat (first | refine blk_drewN ?_ _ | refine blk_drew ?_ | refine blk_alloc ?_ _)); refine blk_put (cs := #[.int .i64 0, .slice none 0 0]) ?_ 0 _ rfl; (with_reducible repeat (first | refine blk_drewN ?_ _ | refine blk_drew ?_ | refine blk_alloc ?_ _)); exact BK184.out) hb); replace HB := bs hb; (try clear hb); have hnb51 := NB174_172.out; have hnc51 := NB172_174.out; have hnb52 := NB174_173.out; have hnc52 := NB173_174.out; have hcz53_0 := bc BK174 0 (.int .i64 0); have hcz53_1 := bc BK174 1 (.slice none 0 0); have hfz53_0 := blk_frozen BK174.out 0; have hfz53_1 := blk_frozen BK174.out 1))
   refine bodyPost_ret (results_ct rfl _ _ gb174 29 #[.int .i64 0, .slice none 0 0] (0, 0) _ rfl (by (with_reducible repeat (first | refine blk_drewN ?_ _ | refine blk_drew ?_ | refine blk_alloc ?_ _)); refine blk_put (cs := #[.int .i64 0, .slice none 0 0]) ?_ 1 _ rfl; (with_reducible repeat (first | refine blk_drewN ?_ _ | refine blk_drew ?_ | refine blk_alloc ?_ _)); refine blk_put (cs := #[.int .i64 0, .slice none 0 0]) ?_ 0 _ rfl; (with_reducible repeat (first | refine blk_drewN ?_ _ | refine blk_drew ?_ | refine blk_alloc ?_ _)); exact BK174.out) Try.underlying29 rfl (by kernel_rfl)) rfl ?_
   exact ⟨_, rs, by first | exact Kd.R_nil _ _ _ _ _ | exact Kd.N_nil _ _ _ _ _ | exact Kd.V_nil _ _ _ _ _ | exact Kd.Q_nil _ _ _ _ _ | exact Kd.S_nil _ _ _ _ _, bw⟩
 ·rw [if_neg c4] at H
  exact absurd H (by simp)

end Go.Proofs.Ytphfbldnoinanaa.PFnExactAddClue
