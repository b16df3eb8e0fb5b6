-- Laid by xprint, a program of this session that runs over the kit's print.
import Derived.Test.YtonhhfhlhlifcaaGreatDoorPFnRowsHiddenOfAllx6
namespace Go.Proofs.YtonhhfhlhlifcaaGreatDoor.PFnRowsHiddenOfAll
open Go.RowKit Go.Proofs.YtonhhfhlhlifcaaGreatDoorW.PrintWords Go.Proofs.YtonhhfhlhlifcaaGreatDoorW.PrintLast Go.Proofs.YtonhhfhlhlifcaaGreatDoorW.PrintMore Go.Proofs.YtonhhfhlhlifcaaGreatDoor.Sq
attribute [local go_sem] max2_int min2_int max_two min_two max_three min_three max_four min_four   -- for this text's walks alone
set_option linter.unusedVariables false
set_option linter.unusedSimpArgs false

attribute [local go_sem high] eqA26
/-! ### spec_MakePuzzle: function 5 -/
mutual
def spec_MakePuzzle.j0 : Nat → ByteArray → Int → Int → Bool → Option (Int × (List (S26)) × Bool)
  | 0, _, _, _, _ => none
  | k + 1, x0, x1, x2, x23 => if x23 = true then (some (0, ([] : List (S26)), false)) else (spec_MakePuzzle.l0 k x0 x1 x2 (x0.size : Int) ([] : List (S26)))
def spec_MakePuzzle.l0 : Nat → ByteArray → Int → Int → Int → List (S26) → Option (Int × (List (S26)) × Bool)
  | 0, _, _, _, _, _ => none
  | k + 1, x0, x1, x9, x174000, x174001 => if x1 > 0 then ((spec_pzNext.f x9).bind fun t174 => ((spec_pzNext.f t174).bind fun t175 => ((spec_pzOf.f k (Int.tmod t174 5) t175 x0).bind fun bt176 => (if x174001.length < 4398046511104 then (spec_MakePuzzle.l0 k x0 (wrap64 (x1 - 1)) t175 x174000 (x174001 ++ [(⟨bt176.1, bt176.2.1, bt176.2.2.1, bt176.2.2.2⟩ : S26)])) else (none))))) else (some (x174000, x174001, true))
end
def spec_MakePuzzle.f (k : Nat) (a0 : ByteArray) (a1 : Int) (a2 : Int) : Option (Int × (List (S26)) × Bool) := (spec_pzHidden.f k a0).bind fun t170 => (if t170 = true then ((spec_l1In.f a1 0 6).bind fun t171 => (if t171 = true then ((spec_l1In.f a2 0 9999).bind fun t172 => (spec_MakePuzzle.j0 k a0 a1 a2 (!t172))) else (spec_MakePuzzle.j0 k a0 a1 a2 true))) else (spec_MakePuzzle.j0 k a0 a1 a2 true))
theorem spec_MakePuzzle.mono_l : ∀ k, (∀ y0 y1 y2 y3, LeO (spec_MakePuzzle.j0 k y0 y1 y2 y3) (spec_MakePuzzle.j0 (k + 1) y0 y1 y2 y3)) ∧ (∀ y0 y1 y2 y3 y4, LeO (spec_MakePuzzle.l0 k y0 y1 y2 y3 y4) (spec_MakePuzzle.l0 (k + 1) y0 y1 y2 y3 y4))
  | 0 => ⟨fun _ _ _ _ r h => by simp [spec_MakePuzzle.j0] at h, fun _ _ _ _ _ r h => by simp [spec_MakePuzzle.l0] at h⟩
  | k + 1 => by
    obtain ⟨ih0, ih1⟩ := spec_MakePuzzle.mono_l k
    refine ⟨?q0, ?q1⟩
    case' q0 => (intros; unfold spec_MakePuzzle.j0)
    case' q1 => (intros; unfold spec_MakePuzzle.l0)
    all_goals repeat' first
     | (with_reducible exact ih0 _ _ _ _)
     | (with_reducible exact ih1 _ _ _ _ _)
     | (with_reducible exact spec_pzHidden.mono _ _)
     | (with_reducible exact spec_pzOf.mono _ _ _ _)
     | (with_reducible exact LeO.refl _)
     | (with_reducible exact LeO.none _)
     | (with_reducible refine LeO.ite ?_ ?_)
     | (with_reducible refine LeO.bind ?_ (fun _ => ?_))
     | exact ih0 _ _ _ _
     | exact ih1 _ _ _ _ _
     | exact spec_pzHidden.mono _ _
     | exact spec_pzOf.mono _ _ _ _
     | exact LeO.none _
     | refine LeO.ite ?_ ?_
     | refine LeO.bind ?_ (fun _ => ?_)
theorem spec_MakePuzzle.mono : ∀ a0 a1 a2 k, LeO (spec_MakePuzzle.f k a0 a1 a2) (spec_MakePuzzle.f (k + 1) a0 a1 a2) := by
  intro a0 a1 a2 k
  obtain ⟨ih0, ih1⟩ := spec_MakePuzzle.mono_l k
  unfold spec_MakePuzzle.f
  repeat' first
      | (with_reducible exact ih0 _ _ _ _)
      | (with_reducible exact ih1 _ _ _ _ _)
      | (with_reducible exact spec_pzHidden.mono _ _)
      | (with_reducible exact spec_pzOf.mono _ _ _ _)
      | (with_reducible exact LeO.refl _)
      | (with_reducible exact LeO.none _)
      | (with_reducible refine LeO.ite ?_ ?_)
      | (with_reducible refine LeO.bind ?_ (fun _ => ?_))
      | exact ih0 _ _ _ _
      | exact ih1 _ _ _ _ _
      | exact spec_pzHidden.mono _ _
      | exact spec_pzOf.mono _ _ _ _
      | exact LeO.none _
      | refine LeO.ite ?_ ?_
      | refine LeO.bind ?_ (fun _ => ?_)
def spec_MakePuzzle.T10 : Bool × List (List Nat × List Nat) := (true, [([], []), ([0], [0]), ([], []), ([], []), ([], []), ([2, 3, 4], [2, 3, 4]), ([5], [5]), ([1, 6, 5], [1, 6]), ([0, 1, 2, 3, 4, 5, 6, 7], []), ([8, 7, 7, 0, 1, 2, 3, 4, 5, 6, 7], [7, 8])])
def spec_MakePuzzle.B10 : List Nat := [0, 1, 0, 0, 0, 28, 60, 127, 255, 511]
theorem spec_MakePuzzle.tab10 : rtab .any (opsOf Tryz.f5 10) = spec_MakePuzzle.T10 := by kernel_rfl
theorem spec_MakePuzzle.bits10 : waitsOk spec_MakePuzzle.T10.2 spec_MakePuzzle.B10 = true := by kernel_rfl
set_option maxHeartbeats 8000000 in
set_option maxRecDepth 100000 in
theorem spec_MakePuzzle.calls (k : Nat) (a0 : ByteArray) (a1 : Int) (a2 : Int) (r1 : Int) (r2 : List (S26)) (r3 : Bool) (w : World) (h : spec_MakePuzzle.f k a0 a1 a2 = some (r1, r2, r3)) :
  Calls Tryz.prog 5 #[.string a0, .int .i64 a1, .int .i64 a2] w fun e w' => ∃ v1_ : Value, e = .returned (.tuple #[.agg #[.int .i64 r1, v1_], .bool r3]) ∧ Kd.R k26 26 w' w.heap.size (fun _ => True) v1_ r2 ∧ Below w.heap.size w w' := by
 have hu24 := Tryz.underlying24
 have HB := Aside0.mk (Below.refl w.heap.size w)
 unfold spec_MakePuzzle.f at h
 have H := h
 clear h
 have HC4 := Aside0.mk H
 clear H
 go_enter Tryz.func5, Tryz.ntmps5
 go_upto_region 1 with (first | ((with_reducible refine gd 6 ?_); refine bx 6 24 #[.int .i64 0, .slice none 0 0] ?_; intro gb169 hg w5 hbox hb; have BK169 := hbox; have GW169 := gs hg; have GE169 := gs hg; replace HB := bs hb; clear hb hbox hg))
 (try simp only [Act.put, List.setIfInBounds_toArray, List.set_cons_zero, List.set_cons_succ])
 go_cut [23] (fun v23 wc => ∃ (kq : Nat) (x23_3 : Bool), v23 = .bool x23_3 ∧ Aside0 (spec_MakePuzzle.j0 kq a0 a1 a2 x23_3 = some (r1, r2, r3)) ∧ Aside0 (kq ≤ k) ∧ Aside0 (wc.heap[gb169]? = some (.cells #[.int .i64 0, (.slice none 0 0)] 24 (0, 0))) ∧ Aside0 (Below w.heap.size w wc))
 case first =>
  have H := HC4.out
  clear HC4
  obtain ⟨t170, A6, H⟩ := ob H
  (try dsimp only at H)
  by_cases c7 : t170 = true
  ·subst c7
   rw [if_pos rfl] at H
   obtain ⟨t171, A8, H⟩ := ob H
   (try dsimp only at H)
   by_cases c9 : t171 = true
   ·subst c9
    rw [if_pos rfl] at H
    obtain ⟨t172, A10, H⟩ := ob H
    (try dsimp only at H)
    have H' := Aside0.mk H
    clear H
    go_wp2_with (first | ((with_reducible refine gc 31 ?_); refine gl (some 12) Tryz.func31 #[.string a0] ?_; (with_reducible refine (spec_pzHidden.calls k a0 true _ A6.out).mono ?_); rintro e w' ⟨rfl, ⟨nd, rfl⟩⟩; refine ⟨_, rfl, ?_⟩) | (go_at_call 32; (with_reducible refine (spec_l1In.calls a1 0 6 true _ A8.out).mono ?_); rintro e w' ⟨rfl, ⟨nd, rfl⟩⟩) | (go_at_call 32; (with_reducible refine (spec_l1In.calls a2 0 9999 t172 _ A10.out).mono ?_); rintro e w' ⟨rfl, ⟨nd, rfl⟩⟩))
    go_meet
    case rel => exact ⟨_, (!t172), (rs), H', ⟨by first | omega | exact Nat.le_refl _⟩, ⟨pk BK169⟩, ⟨bw⟩⟩
   replace c9 := Bool.eq_false_iff.mpr c9
   subst c9
   rw [if_neg (show ¬ (false = true) by decide)] at H
   have H' := Aside0.mk H
   clear H
   go_wp2_with (first | ((with_reducible refine gc 31 ?_); refine gl (some 12) Tryz.func31 #[.string a0] ?_; (with_reducible refine (spec_pzHidden.calls k a0 true _ A6.out).mono ?_); rintro e w' ⟨rfl, ⟨nd, rfl⟩⟩; refine ⟨_, rfl, ?_⟩) | (go_at_call 32; (with_reducible refine (spec_l1In.calls a1 0 6 false _ A8.out).mono ?_); rintro e w' ⟨rfl, ⟨nd, rfl⟩⟩))
   go_meet
   case rel => exact ⟨_, (true), (rs), H', ⟨by first | omega | exact Nat.le_refl _⟩, ⟨pk BK169⟩, ⟨bw⟩⟩
  replace c7 := Bool.eq_false_iff.mpr c7
  subst c7
  rw [if_neg (show ¬ (false = true) by decide)] at H
  have H' := Aside0.mk H
  clear H
  go_wp2_with (first | ((with_reducible refine gc 31 ?_); refine gl (some 12) Tryz.func31 #[.string a0] ?_; (with_reducible refine (spec_pzHidden.calls k a0 false _ A6.out).mono ?_); rintro e w' ⟨rfl, ⟨nd, rfl⟩⟩; refine ⟨_, rfl, ?_⟩))
  go_meet
  case rel => exact ⟨_, (true), (rs), H', ⟨by first | omega | exact Nat.le_refl _⟩, ⟨pk BK169⟩, ⟨bw⟩⟩
 case rest =>
  clear HC4
  try clear p2
  try clear c3
  try clear c5
  try clear c7
  try clear c9
  obtain ⟨kq, x23_3, rfl, HA, HJ3, BK169, HB⟩ := hcut
  cases kq with
  | zero => exact absurd HA.out (by simp [spec_MakePuzzle.j0])
  | succ kj3 =>
   have H := HA.out
   clear HA
   simp only [spec_MakePuzzle.j0] at H
   by_cases c11 : x23_3 = true
   ·subst c11
    rw [if_pos rfl] at H
    simp only [Option.some.injEq, Prod.mk.injEq] at H
    obtain ⟨rfl, rfl, rfl⟩ := H
    have hcz12_0 : wc.cell? ⟨gb169, 0, none⟩ = some (.int .i64 0) := ec BK169
    have hcz12_1 : wc.cell? ⟨gb169, 1, none⟩ = some (.slice none 0 0) := ec BK169
    have hfz12_0 := blk_frozen BK169.out 0
    have hfz12_1 := blk_frozen BK169.out 1
    go_wp2
    refine bodyPost_ret (results_ct rfl _ _ gb169 24 #[.int .i64 0, .slice none 0 0] (0, 0) _ rfl (pz BK169) Tryz.underlying24 rfl (by kernel_rfl)) rfl ?_
    exact ⟨_, rs, by first | exact Kd.R_nil _ _ _ _ _ | exact Kd.N_nil _ _ _ _ _ | exact Kd.V_nil _ _ _ _ _ | exact Kd.Q_nil _ _ _ _ _ | exact Kd.S_nil _ _ _ _ _, bw⟩
   replace c11 := Bool.eq_false_iff.mpr c11
   subst c11
   rw [if_neg (show ¬ (false = true) by decide)] at H
   have H' := Aside0.mk H
   clear H
   go_wp2_with (first | ((with_reducible refine gd 8 ?_); refine bx 8 24 #[.int .i64 0, .slice none 0 0] ?_; intro gb173 hg w13 hbox hb; have BK173 := hbox; have GW173 := gs hg; have GE173 := gs hg; replace HB := bs hb; have ⟨NB169_173, NB173_169⟩ := nn BK169 hg; replace BK169 := nk BK169 hb; clear hb hbox hg; have hnb14 := NB173_169.out; have hnc14 := NB169_173.out; obtain ⟨hcz15_0, hcz15_1, hfz15_0, hfz15_1⟩ := z2 BK173))
   go_loopg [1, 9] kj3 (fun kq v1 v9 w' => ∃ (x1_2 : Int) (x9_2 : Int) (x174001_2 : List (S26)) (u174001 : Value), v1 = .int .i64 x1_2 ∧ v9 = .int .i64 x9_2 ∧ Aside0 (spec_MakePuzzle.l0 kq a0 x1_2 x9_2 (a0.size : Int) x174001_2 = some (r1, r2, r3)) ∧ Aside0 (kq ≤ kj3) ∧ Aside0 (Kd.R k26 26 w' w.heap.size (fun _ => True) u174001 x174001_2) ∧ Aside0 (w'.heap[gb169]? = some (.cells #[.int .i64 0, (.slice none 0 0)] 24 (0, 0))) ∧ Aside0 (w'.heap[gb173]? = some (.cells #[.int .i64 (a0.size : Int), u174001] 24 (0, 0))) ∧ Aside0 (Below w.heap.size w w'))
   case atStart => exact ⟨(a1), (a2), (([] : List (S26))), (.slice none 0 0), (rs), (rs), H', ⟨Nat.le_refl _⟩, ⟨by first | exact Kd.R_nil _ _ _ _ _ | exact Kd.N_nil _ _ _ _ _ | exact Kd.V_nil _ _ _ _ _ | exact Kd.Q_nil _ _ _ _ _ | exact Kd.S_nil _ _ _ _ _⟩, ⟨pf BK169⟩, ⟨pz BK173⟩, ⟨bw⟩⟩
   case round =>
    clear H'
    try clear c1
    try clear p2
    try clear c3
    try clear c5
    try clear c7
    try clear c9
    try clear c11
    try clear c14
    try clear hcz12_0
    try clear hcz12_1
    try clear hcz15_0
    try clear hcz15_1
    try clear hfz12_0
    try clear hfz12_1
    try clear hfz15_0
    try clear hfz15_1
    try clear p2
    obtain ⟨x1_2, x9_2, x174001_2, u174001, rfl, rfl, HA, HK2, HO_174001, BK169, BK173, HB⟩ := hrel
    cases gk with
    | zero => exact absurd HA.out (by simp [spec_MakePuzzle.l0])
    | succ k2 =>
     have H := HA.out
     clear HA
     simp only [spec_MakePuzzle.l0] at H
     by_cases c16 : x1_2 > 0
     ·rw [if_pos c16] at H
      have c16b0 := decide_eq_true c16
      clear c16
      obtain ⟨t174, A17, H⟩ := ob H
      (try dsimp only at H)
      obtain ⟨t175, A18, H⟩ := ob H
      (try dsimp only at H)
      obtain ⟨⟨t176, t177, t178, t179⟩, A19, H⟩ := ob H
      (try dsimp only at H)
      obtain ⟨c20, H⟩ := oi H
      have LMc20 := Aside0.mk c20
      clear c20
      obtain ⟨y180, hy180⟩ : ∃ y_ : List (S26), y_ = (x174001_2 ++ [(⟨t176, t177, t178, t179⟩ : S26)]) := ⟨_, rfl⟩
      replace H : (spec_MakePuzzle.l0 k2 a0 (wrap64 (x1_2 - 1)) t175 (a0.size : Int) y180) = some (r1, r2, r3) := by first | (rw [hy180]; with_reducible exact H) | (have H2_ := (Option.bind_some _ _).symm.trans H; rw [hy180]; with_reducible exact H2_) | (have H2_ := (Option.bind_some _ _).symm.trans H; with_reducible exact H2_) | with_reducible exact H | (rw [hy180]; exact H) | exact H
      have Ny180 := Aside0.mk hy180
      clear hy180
      have H' := Aside0.mk H
      clear H
      try go_wp2_with (first | ((with_reducible refine gc 33 ?_); refine gl (some 34) Tryz.func33 #[.int .i64 x9_2] ?_; (with_reducible refine (spec_pzNext.calls x9_2 t174 _ A17.out).mono ?_); rintro e w' ⟨rfl, ⟨nd, rfl⟩⟩; refine ⟨_, rfl, ?_⟩; (try (rw [drewN_self wr]; generalize hq_ : World.drewN wr _ = wr; have n0_ : Aside0 (Kd.R k26 26 wr w.heap.size (fun _ => True) u174001 x174001_2) := ⟨by rw [← hq_]; exact (pr HO_174001)⟩; have n1_ : Aside0 (wr.heap[gb169]? = some (.cells #[.int .i64 0, .slice none 0 0] 24 (0, 0))) := ⟨by rw [← hq_]; exact (pk BK169)⟩; have n2_ : Aside0 (wr.heap[gb173]? = some (.cells #[.int .i64 (a0.size : Int), u174001] 24 (0, 0))) := ⟨by rw [← hq_]; exact (pk BK173)⟩; have n3_ : Aside0 (Below w.heap.size w wr) := ⟨by rw [← hq_]; exact bw⟩; clear HO_174001 BK169 BK173 HB hq_; have HO_174001 := n0_; have BK169 := n1_; have BK173 := n2_; have HB := n3_; clear n0_ n1_ n2_ n3_))) | ((with_reducible refine gc 33 ?_); refine gl (some 38) Tryz.func33 #[.int .i64 t174] ?_; (with_reducible refine (spec_pzNext.calls t174 t175 _ A18.out).mono ?_); rintro e w' ⟨rfl, ⟨nd, rfl⟩⟩; refine ⟨_, rfl, ?_⟩; (try (rw [drewN_self wr]; generalize hq_ : World.drewN wr _ = wr; have n0_ : Aside0 (Kd.R k26 26 wr w.heap.size (fun _ => True) u174001 x174001_2) := ⟨by rw [← hq_]; exact (pr HO_174001)⟩; have n1_ : Aside0 (wr.heap[gb169]? = some (.cells #[.int .i64 0, .slice none 0 0] 24 (0, 0))) := ⟨by rw [← hq_]; exact (pk BK169)⟩; have n2_ : Aside0 (wr.heap[gb173]? = some (.cells #[.int .i64 (a0.size : Int), u174001] 24 (0, 0))) := ⟨by rw [← hq_]; exact (pk BK173)⟩; have n3_ : Aside0 (Below w.heap.size w wr) := ⟨by rw [← hq_]; exact bw⟩; clear HO_174001 BK169 BK173 HB hq_; have HO_174001 := n0_; have BK169 := n1_; have BK173 := n2_; have HB := n3_; clear n0_ n1_ n2_ n3_))))
      replace HO_174001 := Aside0.mk (Kd.R_drew HO_174001.out)
      replace BK169 := Aside0.mk (blk_drew BK169.out)
      replace BK173 := Aside0.mk (blk_drew BK173.out)
      replace HB := Aside0.mk (below_drew1 HB.out)
      refine start_ (n := 10) (S := fun w' => w'.cell? ⟨gb173, 0, none⟩ = some (.int .i64 (a0.size : Int)) ∧ w'.cell? ⟨gb173, 1, none⟩ = some (u174001)) (ds := [9]) (tb 10 0) (by kernel_rfl) rfl rfl ⟨ec BK173, ec BK173⟩ (fun hHeld => ?_); refine with_tabW spec_MakePuzzle.tab10 spec_MakePuzzle.bits10 (fun HT_ HW_ => ?_)
      generalize wr.drew = w21 at HO_174001 BK169 BK173 HB hHeld ⊢
      refine pu 0 (some 39) (tb 10 1) ?_
      refine pu 2 (some 41) (tb 10 5) ?_
      refine pu 3 (some 42) (tb 10 13) ?_
      refine pu 4 (some 43) (tb 10 29) ?_
      refine tk 1 (some 40) (tb 10 31) hHeld ?_
      refine one_ (i := 5) (N := some 44) (tb 10 63) rfl rfl (one_of HT_.out (by kernel_rfl)) (by decide) (fun K hK => ?_)
      refine go1 Tryz.func34 #[.int .i64 (Int.tmod t174 5), .int .i64 t175, .string a0] ?_
      with_reducible refine (spec_pzOf.calls k2 (Int.tmod t174 5) t175 a0 t176 t177 t178 t179 _ A19.out).mono ?_
      rintro e w22 ⟨rfl, hb⟩
      refine ⟨_, rfl, ?_⟩
      replace HO_174001 := rl HO_174001 hb
      replace BK169 := nk BK169 hb
      replace BK173 := nk BK173 hb
      replace HB := bs hb
      (try clear hb)
      refine hK.out _ _ ⟨ec BK173, ec BK173⟩ (fun hHeld => ?_)
      clear hK K
      refine nm (some 44) ?_
      refine one_ (i := 6) (N := some 45) (tb 10 127) rfl rfl (one_of HT_.out (by kernel_rfl)) (by decide) (fun K hK => ?_)
      refine value_ (w1 := ?_) (v := ?_) (by rfl) rfl ?_ ?_
      rotate_left 2
      ·go_simp
       constructor
       ·rfl
       rfl
      refine hK.out _ _ ⟨(blk_cell (blk_alloc BK173.out _) 0).trans rfl, (blk_cell (blk_alloc BK173.out _) 1).trans rfl⟩ (fun hHeld => ?_)
      clear hK K
      refine nm (some 45) ?_
      refine one_ (i := 7) (N := some 46) (tb 10 255) rfl rfl (one_of HT_.out (by kernel_rfl)) (by decide) (fun K hK => ?_)
      refine Kd.R_append_step k26 (w0 := w) w.heap.size (by rfl) (.tmp 40) (.tmp 45) 22 26 (.agg #[(.int .i64 0), (.int .i64 0), (.int .i64 0), (.int .i64 0)]) 32 rfl Tryz.underlying22 info26 rfl (by decide) (by omega) u174001 x174001_2 (⟨t176, t177, t178, t179⟩ : S26) [.int .i64 t176, .int .i64 t177, .int .i64 t178, .int .i64 t179] (fun _ => True) (fun _ => False) rfl rfl ?aP (fun _ hk => hk.elim) ?aF ?aO ?aB ?aS ?aL ?_
      (case aP => exact k26_mkM _ _ _ (⟨t176, t177, t178, t179⟩ : S26))
      (case aB => exact bw)
      (case aF => exact (fun _ _ => trivial))
      (case aO => exact (pr HO_174001))
      (case aS => exact (below_size bw))
      (case aL => have := LMc20.out; omega)
      intro v181 w23 ho hb hg hat
      rw [← Ny180.out] at ho
      have n0_ := Aside0.mk (blk_grown (pk BK169) hg (Kd.R_ne HO_174001.out BK169.out (by decide)))
      have n1_ := Aside0.mk (blk_grown (pk BK173) hg (Kd.R_ne HO_174001.out BK173.out (by decide)))
      have n2_ := Aside0.mk (hb)
      have n3_ := Aside0.mk (ho)
      clear BK169
      clear BK173
      clear HB
      clear HO_174001
      have BK169 := n0_
      have BK173 := n1_
      have HB := n2_
      have HO182 := n3_
      clear n0_ n1_ n2_ n3_
      clear ho hb hg hat
      obtain ⟨Ao24, co24, eo24⟩ := Kd.R_slice HO182.out
      (first | subst eo24 | (injection eo24 with f1_ f2_ f3_; have f4_ := f1_.symm; have f5_ := f3_.symm; clear f1_ f2_ f3_; subst f4_; subst f5_))
      refine hK.out _ _ ⟨ec BK173, ec BK173⟩ (fun hHeld => ?_)
      clear hK K
      refine nm (some 46) ?_
      refine pu 8 (some 47) (tb 10 511) ?_
      refine last_ (i := 9) (N := none) (tb 10 1023) rfl rfl (one_of HT_.out (by kernel_rfl)) (by decide) (fun K hK => ?_)
      have hs25 : w23.cell? ⟨gb173, 1, none⟩ = some (u174001) := ec BK173
      have hfs25 := blk_frozen BK173.out 1
      have hns25_0 := NB169_173.out
      have hms25_0 := NB173_169.out
      refine skip_ (w1 := ?_) (by rfl) rfl ?_ ?_
      rotate_left
      ·go_simp
       rfl
      refine hK.out _ _ ?_
      clear hK K
      refine done_ (done_of HT_.out (by kernel_rfl)) ?_
      try go_wp2
      go_roundg k2
      case measure => have := HJ3.out; have := HK2.out; omega
      case rel => exact ⟨(wrap64 (x1_2 - 1)), (t175), (y180), (.slice Ao24 y180.length co24), (rs), (rs), H', ⟨by have := HJ3.out; have := HK2.out; omega⟩, ⟨by (with_reducible repeat (first | apply Kd.R_alloc | apply Kd.R_drewN | apply Kd.R_drew)); exact Kd.R_mono (Kd.R_far (p := ⟨gb173, 1, none⟩) (Kd.R_types HO182.out BK173.out (by decide)) (fun _ hk => hk.2) (.slice Ao24 y180.length co24)) (fun _ hk => trivial)⟩, ⟨pf BK169⟩, ⟨pz BK173⟩, ⟨bw⟩⟩
     rw [if_neg c16] at H
     have c16b0 := decide_eq_false c16
     clear c16
     simp only [Option.some.injEq, Prod.mk.injEq] at H
     obtain ⟨rfl, rfl, rfl⟩ := H
     have hnb26 := nb NB173_169
     have hcz27_0 : wr.cell? ⟨gb173, 0, none⟩ = some (.int .i64 (a0.size : Int)) := ec BK173
     have hcz27_1 : wr.cell? ⟨gb173, 1, none⟩ = some (u174001) := ec BK173
     have hfz27_0 := blk_frozen BK173.out 0
     have hfz27_1 := blk_frozen BK173.out 1
     have hcz28_0 : wr.cell? ⟨gb169, 0, none⟩ = some (.int .i64 0) := ec BK169
     have hcz28_1 : wr.cell? ⟨gb169, 1, none⟩ = some (.slice none 0 0) := ec BK169
     have hfz28_0 := blk_frozen BK169.out 0
     have hfz28_1 := blk_frozen BK169.out 1
     obtain ⟨Ao29, co29, eo29⟩ := Kd.R_slice HO_174001.out
     subst eo29
     go_wp2
     refine bodyPost_ret (results_ct rfl _ _ gb169 24 #[.int .i64 (a0.size : Int), .slice Ao29 x174001_2.length co29] (0, 0) _ rfl (pz BK169) Tryz.underlying24 rfl (by kernel_rfl)) rfl ?_
     exact ⟨_, rs, by (with_reducible repeat (first | apply Kd.R_alloc | apply Kd.R_drewN | apply Kd.R_drew)); exact Kd.R_mono (Kd.R_far (p := ⟨gb169, 1, none⟩) (Kd.R_far (p := ⟨gb169, 0, none⟩) (Kd.R_types HO_174001.out BK169.out (by decide)) (fun _ hk => hk.2) (.int .i64 (a0.size : Int))) (fun _ hk => hk.2) (.slice Ao29 x174001_2.length co29)) (fun _ hk => trivial), bw⟩

/-! ### laws_vPuzzle: function 6 -/
mutual
def laws_vPuzzle.j0 : Nat → Bool → Int → List (S26) → Int → List (S26) → Option (Bool)
  | 0, _, _, _, _, _ => none
  | k + 1, x19, x184000, x184001, x185000, x185001 => if x19 = true then (some false) else (laws_vPuzzle.l0 k (x184001.length : Int) 0 x184000 x184001 x185000 x185001)
def laws_vPuzzle.l0 : Nat → Int → Int → Int → List (S26) → Int → List (S26) → Option (Bool)
  | 0, _, _, _, _, _, _ => none
  | k + 1, x22, x23, x184000, x184001, x185000, x185001 => if x23 < x22 then (if 0 ≤ x23 then (if x23 < (x184001.length : Int) then (if x23 < (x185001.length : Int) then (if (!(((rd_T26 x184001 x23).f0) == ((rd_T26 x185001 x23).f0)) || (!(((rd_T26 x184001 x23).f1) == ((rd_T26 x185001 x23).f1)) || (!(((rd_T26 x184001 x23).f2) == ((rd_T26 x185001 x23).f2)) || (!(((rd_T26 x184001 x23).f3) == ((rd_T26 x185001 x23).f3)))))) = true then (some false) else (laws_vPuzzle.l0 k x22 (wrap64 (x23 + 1)) x184000 x184001 x185000 x185001)) else (none)) else (none)) else (none)) else (some true)
end
def laws_vPuzzle.f (k : Nat) (a0_0 : Int) (l0_1 : List (S26)) (a1_0 : Int) (l1_1 : List (S26)) : Option (Bool) := if a0_0 = a1_0 then (laws_vPuzzle.j0 k ((l0_1.length : Int) != (l1_1.length : Int)) a0_0 l0_1 a1_0 l1_1) else (laws_vPuzzle.j0 k true a0_0 l0_1 a1_0 l1_1)
theorem laws_vPuzzle.mono_l : ∀ k, (∀ y0 y1 y2 y3 y4, LeO (laws_vPuzzle.j0 k y0 y1 y2 y3 y4) (laws_vPuzzle.j0 (k + 1) y0 y1 y2 y3 y4)) ∧ (∀ y0 y1 y2 y3 y4 y5, LeO (laws_vPuzzle.l0 k y0 y1 y2 y3 y4 y5) (laws_vPuzzle.l0 (k + 1) y0 y1 y2 y3 y4 y5))
  | 0 => ⟨fun _ _ _ _ _ r h => by simp [laws_vPuzzle.j0] at h, fun _ _ _ _ _ _ r h => by simp [laws_vPuzzle.l0] at h⟩
  | k + 1 => by
    obtain ⟨ih0, ih1⟩ := laws_vPuzzle.mono_l k
    refine ⟨?q0, ?q1⟩
    case' q0 => (intros; unfold laws_vPuzzle.j0)
    case' q1 => (intros; unfold laws_vPuzzle.l0)
    all_goals repeat' first
     | (with_reducible exact ih0 _ _ _ _ _)
     | (with_reducible exact ih1 _ _ _ _ _ _)
     | (with_reducible exact LeO.refl _)
     | (with_reducible exact LeO.none _)
     | (with_reducible refine LeO.ite ?_ ?_)
     | (with_reducible refine LeO.bind ?_ (fun _ => ?_))
     | exact ih0 _ _ _ _ _
     | exact ih1 _ _ _ _ _ _
     | exact LeO.none _
     | refine LeO.ite ?_ ?_
     | refine LeO.bind ?_ (fun _ => ?_)
theorem laws_vPuzzle.mono : ∀ a0 a1 a2 a3 k, LeO (laws_vPuzzle.f k a0 a1 a2 a3) (laws_vPuzzle.f (k + 1) a0 a1 a2 a3) := by
  intro a0 a1 a2 a3 k
  obtain ⟨ih0, ih1⟩ := laws_vPuzzle.mono_l k
  unfold laws_vPuzzle.f
  repeat' first
      | (with_reducible exact ih0 _ _ _ _ _)
      | (with_reducible exact ih1 _ _ _ _ _ _)
      | (with_reducible exact LeO.refl _)
      | (with_reducible exact LeO.none _)
      | (with_reducible refine LeO.ite ?_ ?_)
      | (with_reducible refine LeO.bind ?_ (fun _ => ?_))
      | exact ih0 _ _ _ _ _
      | exact ih1 _ _ _ _ _ _
      | exact LeO.none _
      | refine LeO.ite ?_ ?_
      | refine LeO.bind ?_ (fun _ => ?_)
set_option maxHeartbeats 8000000 in
set_option maxRecDepth 100000 in
theorem laws_vPuzzle.calls (k : Nat) (a0_0 : Int) (A0_1 : Option Addr) (c0_1 : Nat) (l0_1 : List (S26)) (a1_0 : Int) (A1_1 : Option Addr) (c1_1 : Nat) (l1_1 : List (S26)) (r : Bool) (w : World) (hr0_1 : Kd.C k26 w A0_1 l0_1.length l0_1) (hc0_1 : l0_1.length ≤ c0_1) (hr1_1 : Kd.C k26 w A1_1 l1_1.length l1_1) (hc1_1 : l1_1.length ≤ c1_1) (h : laws_vPuzzle.f k a0_0 l0_1 a1_0 l1_1 = some r) :
  Calls Tryz.prog 6 #[.agg #[.int .i64 a0_0, .slice A0_1 l0_1.length c0_1], .agg #[.int .i64 a1_0, .slice A1_1 l1_1.length c1_1]] w fun e w' => e = .returned (.bool r) ∧ Below w.heap.size w w' := by
 have hu24 := Tryz.underlying24
 have hu26 := Tryz.underlying26
 have HR0_1 := Aside0.mk hr0_1
 have HC0_1 := Aside0.mk hc0_1
 clear hr0_1 hc0_1
 have HR1_1 := Aside0.mk hr1_1
 have HC1_1 := Aside0.mk hc1_1
 clear hr1_1 hc1_1
 have HB := Aside0.mk (Below.refl w.heap.size w)
 unfold laws_vPuzzle.f at h
 have H := h
 clear h
 have HC3 := Aside0.mk H
 clear H
 go_enter Tryz.func6, Tryz.ntmps6
 iterate 16 ((try go_upto_region 1 with (first | ((with_reducible refine gd 2 ?_); (try (refine gate_guard (by rfl) ?_; dsimp only)); refine bx 2 24 #[.int .i64 a0_0, .slice A0_1 l0_1.length c0_1] ?_; intro gb183 hg w4 hbox hb; have BK183 := hbox; have GW183 := gs hg; have GE183 := gs hg; replace HB := bs hb; clear hb hbox hg) | ((with_reducible refine gd 3 ?_); (try (refine gate_guard (by rfl) ?_; dsimp only)); refine bx 3 24 #[.int .i64 a1_0, .slice A1_1 l1_1.length c1_1] ?_; intro gb184 hg w5 hbox hb; have BK184 := hbox; have GW184 := gs hg; have GE184 := gs hg; replace HB := bs hb; have ⟨NB183_184, NB184_183⟩ := nn BK183 hg; replace BK183 := nk BK183 hb; clear hb hbox hg))); (try go_quiet (fail)))
 (try simp only [Act.put, List.setIfInBounds_toArray, List.set_cons_zero, List.set_cons_succ])
 go_cut [19] (fun v19 wc => ∃ (kq : Nat) (x19_2 : Bool), v19 = .bool x19_2 ∧ Aside0 (laws_vPuzzle.j0 kq x19_2 a0_0 l0_1 a1_0 l1_1 = some r) ∧ Aside0 (kq ≤ k) ∧ Aside0 (wc.heap[gb183]? = some (.cells #[.int .i64 a0_0, (.slice A0_1 l0_1.length c0_1)] 24 (0, 0))) ∧ Aside0 (wc.heap[gb184]? = some (.cells #[.int .i64 a1_0, (.slice A1_1 l1_1.length c1_1)] 24 (0, 0))) ∧ Aside0 (Below w.heap.size w wc))
 case first =>
  have H := HC3.out
  clear HC3
  by_cases c6 : a0_0 = a1_0
  ·rw [if_pos c6] at H
   have c6b0 : (a0_0 == a1_0) = true := beq_iff_eq.mpr c6
   have c6b1 : (a0_0 != a1_0) = false := bne_eq_false_iff_eq.mpr c6
   clear c6
   (first | rw [c6b0] | rw [@decide_eq_true _ _ (of_decide_eq_true c6b1)] | rw [@decide_eq_false _ _ (of_decide_eq_false c6b1)] | (simp only [i64_w, i32_w]; rw [c6b0]) | skip)
   have H' := Aside0.mk H
   clear H
   have hnb7 := nb NB183_184
   obtain ⟨hcz8_0, hcz8_1, hfz8_0, hfz8_1⟩ := z2 BK183
   obtain ⟨hcz9_0, hcz9_1, hfz9_0, hfz9_1⟩ := z2 BK184
   go_wp2
   repeat (go_quiet (fail); try go_wp2)
   go_meet
   case rel => exact ⟨_, (((l0_1.length : Int) != (l1_1.length : Int))), (rs), H', ⟨by first | omega | exact Nat.le_refl _⟩, ⟨pk BK183⟩, ⟨pk BK184⟩, ⟨bw⟩⟩
  rw [if_neg c6] at H
  have c6b0 : (a0_0 == a1_0) = false := beq_eq_false_iff_ne.mpr c6
  have c6b1 : (a0_0 != a1_0) = true := bne_iff_ne.mpr c6
  (first | rw [c6b0] | rw [@decide_eq_true _ _ (of_decide_eq_true c6b1)] | rw [@decide_eq_false _ _ (of_decide_eq_false c6b1)] | (simp only [i64_w, i32_w]; rw [c6b0]) | skip)
  have H' := Aside0.mk H
  clear H
  have hnb10 := nb NB183_184
  obtain ⟨hcz11_0, hcz11_1, hfz11_0, hfz11_1⟩ := z2 BK183
  obtain ⟨hcz12_0, hcz12_1, hfz12_0, hfz12_1⟩ := z2 BK184
  go_wp2
  repeat (go_quiet (fail); try go_wp2)
  go_meet
  case rel => exact ⟨_, (true), (rs), H', ⟨by first | omega | exact Nat.le_refl _⟩, ⟨pk BK183⟩, ⟨pk BK184⟩, ⟨bw⟩⟩
 case rest =>
  clear HC3
  try clear c1
  try clear p2
  try clear c6
  try clear c6b0
  try clear c6b1
  try clear c7
  try clear c10
  try clear hcz11_0
  try clear hcz11_1
  try clear hcz12_0
  try clear hcz12_1
  try clear hcz8_0
  try clear hcz8_1
  try clear hcz9_0
  try clear hcz9_1
  try clear hfz11_0
  try clear hfz11_1
  try clear hfz12_0
  try clear hfz12_1
  try clear hfz8_0
  try clear hfz8_1
  try clear hfz9_0
  try clear hfz9_1
  obtain ⟨kq, x19_2, rfl, HA, HJ2, BK183, BK184, HB⟩ := hcut
  cases kq with
  | zero => exact absurd HA.out (by simp [laws_vPuzzle.j0])
  | succ kj2 =>
   have H := HA.out
   clear HA
   simp only [laws_vPuzzle.j0] at H
   by_cases c13 : x19_2 = true
   ·subst c13
    rw [if_pos rfl] at H
    obtain rfl := Option.some.inj H
    go_wp2
    repeat (go_quiet (fail); try go_wp2)
    go_ret
    exact ⟨rs, bw⟩
   replace c13 := Bool.eq_false_iff.mpr c13
   subst c13
   rw [if_neg (show ¬ (false = true) by decide)] at H
   have H' := Aside0.mk H
   clear H
   have hnb14 := NB183_184.out
   have hnc14 := NB184_183.out
   have hcz15_0 : wc.cell? ⟨gb183, 0, none⟩ = some (.int .i64 a0_0) := ec BK183
   have hcz15_1 : wc.cell? ⟨gb183, 1, none⟩ = some (.slice A0_1 l0_1.length c0_1) := ec BK183
   have hfz15_0 := blk_frozen BK183.out 0
   have hfz15_1 := blk_frozen BK183.out 1
   go_wp2
   repeat (go_quiet (fail); try go_wp2)
   go_loopg [23] kj2 (fun kq v23 w' => ∃ (x23_2 : Int), v23 = .int .i64 x23_2 ∧ Aside0 (laws_vPuzzle.l0 kq (l0_1.length : Int) x23_2 a0_0 l0_1 a1_0 l1_1 = some r) ∧ Aside0 (kq ≤ kj2) ∧ Aside0 (w'.heap[gb183]? = some (.cells #[.int .i64 a0_0, (.slice A0_1 l0_1.length c0_1)] 24 (0, 0))) ∧ Aside0 (w'.heap[gb184]? = some (.cells #[.int .i64 a1_0, (.slice A1_1 l1_1.length c1_1)] 24 (0, 0))) ∧ Aside0 (Below w.heap.size w w'))
   case atStart => exact ⟨(0), (rs), H', ⟨Nat.le_refl _⟩, ⟨pk BK183⟩, ⟨pk BK184⟩, ⟨bw⟩⟩
   case round =>
    clear H'
    try clear c1
    try clear p2
    try clear c6
    try clear c6b0
    try clear c6b1
    try clear c7
    try clear c10
    try clear c13
    try clear c14
    try clear hcz11_0
    try clear hcz11_1
    try clear hcz12_0
    try clear hcz12_1
    try clear hcz15_0
    try clear hcz15_1
    try clear hcz8_0
    try clear hcz8_1
    try clear hcz9_0
    try clear hcz9_1
    try clear hfz11_0
    try clear hfz11_1
    try clear hfz12_0
    try clear hfz12_1
    try clear hfz15_0
    try clear hfz15_1
    try clear hfz8_0
    try clear hfz8_1
    try clear hfz9_0
    try clear hfz9_1
    try clear p2
    obtain ⟨x23_2, rfl, HA, HK2, BK183, BK184, HB⟩ := hrel
    cases gk with
    | zero => exact absurd HA.out (by simp [laws_vPuzzle.l0])
    | succ k2 =>
     have H := HA.out
     clear HA
     simp only [laws_vPuzzle.l0] at H
     by_cases c16 : x23_2 < (l0_1.length : Int)
     ·rw [if_pos c16] at H
      have c16b0 := decide_eq_true c16
      clear c16
      obtain ⟨c17, H⟩ := oi H
      have c17b0 := decide_eq_true c17
      clear c17
      obtain ⟨c18, H⟩ := oi H
      have c18b0 := decide_eq_true c18
      clear c18
      obtain ⟨c19, H⟩ := oi H
      have c19b0 := decide_eq_true c19
      clear c19
      by_cases c20 : (!(((rd_T26 l0_1 x23_2).f0) == ((rd_T26 l1_1 x23_2).f0)) || (!(((rd_T26 l0_1 x23_2).f1) == ((rd_T26 l1_1 x23_2).f1)) || (!(((rd_T26 l0_1 x23_2).f2) == ((rd_T26 l1_1 x23_2).f2)) || (!(((rd_T26 l0_1 x23_2).f3) == ((rd_T26 l1_1 x23_2).f3)))))) = true
      ·rw [if_pos c20] at H
       have c20b0 : (!(((rd_T26 l0_1 x23_2).f0) == ((rd_T26 l1_1 x23_2).f0)) || (!(((rd_T26 l0_1 x23_2).f1) == ((rd_T26 l1_1 x23_2).f1)) || (!(((rd_T26 l0_1 x23_2).f2) == ((rd_T26 l1_1 x23_2).f2)) || (!(((rd_T26 l0_1 x23_2).f3) == ((rd_T26 l1_1 x23_2).f3)))))) = true := c20
       clear c20
       obtain rfl := Option.some.inj H
       have hnb21 := nb NB183_184
       have hcz22_0 : wr.cell? ⟨gb183, 0, none⟩ = some (.int .i64 a0_0) := ec BK183
       have hcz22_1 : wr.cell? ⟨gb183, 1, none⟩ = some (.slice A0_1 l0_1.length c0_1) := ec BK183
       have hfz22_0 := blk_frozen BK183.out 0
       have hfz22_1 := blk_frozen BK183.out 1
       have p185 : 0 ≤ (x23_2 : Int) := of_decide_eq_true asm
       have q185 : x23_2 < (l0_1.length : Int) := of_decide_eq_true asm
       obtain ⟨ad185, e185, hx185_0, hx185_1, hx185_2, hx185_3⟩ := at_T26 HR0_1.out x23_2 p185 q185
       cases e185
       replace hx185_0 := (HB.out.cell (World.block_lt_of_cell? w _ hx185_0)).trans hx185_0
       replace hx185_1 := (HB.out.cell (World.block_lt_of_cell? w _ hx185_1)).trans hx185_1
       replace hx185_2 := (HB.out.cell (World.block_lt_of_cell? w _ hx185_2)).trans hx185_2
       replace hx185_3 := (HB.out.cell (World.block_lt_of_cell? w _ hx185_3)).trans hx185_3
       replace p185 := eq_true p185
       replace q185 := eq_true q185
       have hcz23_0 : wr.cell? ⟨gb184, 0, none⟩ = some (.int .i64 a1_0) := ec BK184
       have hcz23_1 : wr.cell? ⟨gb184, 1, none⟩ = some (.slice A1_1 l1_1.length c1_1) := ec BK184
       have hfz23_0 := blk_frozen BK184.out 0
       have hfz23_1 := blk_frozen BK184.out 1
       have p186 : 0 ≤ (x23_2 : Int) := of_decide_eq_true asm
       have q186 : x23_2 < (l1_1.length : Int) := of_decide_eq_true asm
       obtain ⟨ad186, e186, hx186_0, hx186_1, hx186_2, hx186_3⟩ := at_T26 HR1_1.out x23_2 p186 q186
       cases e186
       replace hx186_0 := (HB.out.cell (World.block_lt_of_cell? w _ hx186_0)).trans hx186_0
       replace hx186_1 := (HB.out.cell (World.block_lt_of_cell? w _ hx186_1)).trans hx186_1
       replace hx186_2 := (HB.out.cell (World.block_lt_of_cell? w _ hx186_2)).trans hx186_2
       replace hx186_3 := (HB.out.cell (World.block_lt_of_cell? w _ hx186_3)).trans hx186_3
       replace p186 := eq_true p186
       replace q186 := eq_true q186
       go_wp2
       repeat (go_quiet (fail); try go_wp2)
       go_ret
       exact ⟨rs, bw⟩
      rw [if_neg c20] at H
      have c20b0 : (!(((rd_T26 l0_1 x23_2).f0) == ((rd_T26 l1_1 x23_2).f0)) || (!(((rd_T26 l0_1 x23_2).f1) == ((rd_T26 l1_1 x23_2).f1)) || (!(((rd_T26 l0_1 x23_2).f2) == ((rd_T26 l1_1 x23_2).f2)) || (!(((rd_T26 l0_1 x23_2).f3) == ((rd_T26 l1_1 x23_2).f3)))))) = false := by simpa using c20
      clear c20
      have H' := Aside0.mk H
      clear H
      have hnb24 := nb NB183_184
      have hcz25_0 : wr.cell? ⟨gb183, 0, none⟩ = some (.int .i64 a0_0) := ec BK183
      have hcz25_1 : wr.cell? ⟨gb183, 1, none⟩ = some (.slice A0_1 l0_1.length c0_1) := ec BK183
      have hfz25_0 := blk_frozen BK183.out 0
      have hfz25_1 := blk_frozen BK183.out 1
      have p185 : 0 ≤ (x23_2 : Int) := of_decide_eq_true asm
      have q185 : x23_2 < (l0_1.length : Int) := of_decide_eq_true asm
      obtain ⟨ad185, e185, hx185_0, hx185_1, hx185_2, hx185_3⟩ := at_T26 HR0_1.out x23_2 p185 q185
      cases e185
      replace hx185_0 := (HB.out.cell (World.block_lt_of_cell? w _ hx185_0)).trans hx185_0
      replace hx185_1 := (HB.out.cell (World.block_lt_of_cell? w _ hx185_1)).trans hx185_1
      replace hx185_2 := (HB.out.cell (World.block_lt_of_cell? w _ hx185_2)).trans hx185_2
      replace hx185_3 := (HB.out.cell (World.block_lt_of_cell? w _ hx185_3)).trans hx185_3
      replace p185 := eq_true p185
      replace q185 := eq_true q185
      have hcz26_0 : wr.cell? ⟨gb184, 0, none⟩ = some (.int .i64 a1_0) := ec BK184
      have hcz26_1 : wr.cell? ⟨gb184, 1, none⟩ = some (.slice A1_1 l1_1.length c1_1) := ec BK184
      have hfz26_0 := blk_frozen BK184.out 0
      have hfz26_1 := blk_frozen BK184.out 1
      have p186 : 0 ≤ (x23_2 : Int) := of_decide_eq_true asm
      have q186 : x23_2 < (l1_1.length : Int) := of_decide_eq_true asm
      obtain ⟨ad186, e186, hx186_0, hx186_1, hx186_2, hx186_3⟩ := at_T26 HR1_1.out x23_2 p186 q186
      cases e186
      replace hx186_0 := (HB.out.cell (World.block_lt_of_cell? w _ hx186_0)).trans hx186_0
      replace hx186_1 := (HB.out.cell (World.block_lt_of_cell? w _ hx186_1)).trans hx186_1
      replace hx186_2 := (HB.out.cell (World.block_lt_of_cell? w _ hx186_2)).trans hx186_2
      replace hx186_3 := (HB.out.cell (World.block_lt_of_cell? w _ hx186_3)).trans hx186_3
      replace p186 := eq_true p186
      replace q186 := eq_true q186
      go_wp2
      repeat (go_quiet (fail); try go_wp2)
      go_roundg k2
      case measure => have := HJ2.out; have := HK2.out; omega
      case rel => exact ⟨(wrap64 (x23_2 + 1)), (rs), H', ⟨by have := HJ2.out; have := HK2.out; omega⟩, ⟨pk BK183⟩, ⟨pk BK184⟩, ⟨bw⟩⟩
     rw [if_neg c16] at H
     have c16b0 := decide_eq_false c16
     clear c16
     obtain rfl := Option.some.inj H
     go_wp2
     repeat (go_quiet (fail); try go_wp2)
     go_ret
     exact ⟨rs, bw⟩

/-! ### impl_TicksToRest: function 7 -/
def impl_TicksToRest.f (k : Nat) (a0 : ByteArray) : Option (Int × Bool) := (impl_isRow.f a0).bind fun t187 => (if t187 = true then ((impl_ticksToRest.f k a0).bind fun t188 => (some (t188, true))) else (some (0, false)))
theorem impl_TicksToRest.mono : ∀ a0 k, LeO (impl_TicksToRest.f k a0) (impl_TicksToRest.f (k + 1) a0) := by
  intro a0 k
  unfold impl_TicksToRest.f
  repeat' first
      | (with_reducible exact impl_ticksToRest.mono _ _)
      | (with_reducible exact LeO.refl _)
      | (with_reducible exact LeO.none _)
      | (with_reducible refine LeO.ite ?_ ?_)
      | (with_reducible refine LeO.bind ?_ (fun _ => ?_))
      | exact impl_ticksToRest.mono _ _
      | exact LeO.none _
      | refine LeO.ite ?_ ?_
      | refine LeO.bind ?_ (fun _ => ?_)
set_option maxHeartbeats 8000000 in
set_option maxRecDepth 100000 in
theorem impl_TicksToRest.calls (k : Nat) (a0 : ByteArray) (r1 : Int) (r2 : Bool) (w : World) (hm : Dr.Tab w) (h : impl_TicksToRest.f k a0 = some (r1, r2)) :
  Calls Tryz.prog 7 #[.string a0] w fun e w' => e = .returned (.tuple #[.int .i64 r1, .bool r2]) ∧ Below w.heap.size w w' := by
 have HB := Aside0.mk (Below.refl w.heap.size w)
 have HMM := Aside0.mk hm
 clear hm
 unfold impl_TicksToRest.f at h
 have H := h
 clear h
 obtain ⟨t187, A2, H⟩ := ob H
 (try dsimp only at H)
 by_cases c3 : t187 = true
 ·subst c3
  rw [if_pos rfl] at H
  obtain ⟨t188, A4, H⟩ := ob H
  (try dsimp only at H)
  simp only [Option.some.injEq, Prod.mk.injEq] at H
  obtain ⟨rfl, rfl⟩ := H
  go_enter Tryz.func7, Tryz.ntmps7
  go_wp2_with (first | ((with_reducible refine gc 26 ?_); refine gl (some 5) Tryz.func26 #[.string a0] ?_; (with_reducible refine (impl_isRow.calls a0 true _ A2.out).mono ?_); rintro e w5 ⟨rfl, hb⟩; refine ⟨_, rfl, ?_⟩; replace HB := bs hb; (try clear hb)) | ((with_reducible refine gc 35 ?_); refine gl (some 8) Tryz.func35 #[.string a0] ?_; (with_reducible refine (impl_ticksToRest.calls k a0 t188 _ ?_ A4.out).mono ?_); exact Dr.mm HMM; rintro e w6 ⟨rfl, hb⟩; refine ⟨_, rfl, ?_⟩; replace HB := bs hb; (try clear hb)))
  go_ret2
  exact ⟨rs, bw⟩
 replace c3 := Bool.eq_false_iff.mpr c3
 subst c3
 rw [if_neg (show ¬ (false = true) by decide)] at H
 simp only [Option.some.injEq, Prod.mk.injEq] at H
 obtain ⟨rfl, rfl⟩ := H
 go_enter Tryz.func7, Tryz.ntmps7
 go_wp2_with (first | ((with_reducible refine gc 26 ?_); refine gl (some 5) Tryz.func26 #[.string a0] ?_; (with_reducible refine (impl_isRow.calls a0 false _ A2.out).mono ?_); rintro e w7 ⟨rfl, hb⟩; refine ⟨_, rfl, ?_⟩; replace HB := bs hb; (try clear hb)))
 go_ret2
 exact ⟨rs, bw⟩

end Go.Proofs.YtonhhfhlhlifcaaGreatDoor.PFnRowsHiddenOfAll
