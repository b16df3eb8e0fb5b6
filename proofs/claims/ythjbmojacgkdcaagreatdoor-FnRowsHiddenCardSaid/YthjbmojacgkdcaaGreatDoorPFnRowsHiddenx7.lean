-- Laid by xprint, a program of this session that runs over the kit's print.
import Derived.Test.YthjbmojacgkdcaaGreatDoorPFnRowsHiddenx6
namespace Go.Proofs.YthjbmojacgkdcaaGreatDoor.PFnRowsHidden
open Go.RowKit Go.Proofs.YthjbmojacgkdcaaGreatDoorW.PrintWords Go.Proofs.YthjbmojacgkdcaaGreatDoorW.PrintLast Go.Proofs.YthjbmojacgkdcaaGreatDoorW.PrintMore Go.Proofs.YthjbmojacgkdcaaGreatDoor.Sq
attribute [local go_sem] max2_int min2_int max_two min_two max_three min_three max_four min_four   -- for this text's walks alone
set_option linter.unusedVariables false
set_option linter.unusedSimpArgs false

attribute [local go_sem high] eqA37
/-! ### spec_MakePuzzle: function 7 -/
mutual
def spec_MakePuzzle.j0 : Nat → ByteArray → Int → Int → Bool → Option (Int × (List (S37)) × Bool)
  | 0, _, _, _, _ => none
  | k + 1, x0, x1, x2, x23 => if x23 = true then (some (0, ([] : List (S37)), false)) else (spec_MakePuzzle.l0 k x0 x1 x2 (x0.size : Int) ([] : List (S37)))
def spec_MakePuzzle.l0 : Nat → ByteArray → Int → Int → Int → List (S37) → Option (Int × (List (S37)) × Bool)
  | 0, _, _, _, _, _ => none
  | k + 1, x0, x1, x9, x230000, x230001 => if x1 > 0 then ((spec_pzNext.f x9).bind fun t230 => ((spec_pzNext.f t230).bind fun t231 => ((spec_pzOf.f k (Int.tmod t230 5) t231 x0).bind fun bt232 => (if x230001.length < 4398046511104 then (spec_MakePuzzle.l0 k x0 (wrap64 (x1 - 1)) t231 x230000 (x230001 ++ [(⟨bt232.1, bt232.2.1, bt232.2.2.1, bt232.2.2.2⟩ : S37)])) else (none))))) else (some (x230000, x230001, true))
end
def spec_MakePuzzle.f (k : Nat) (a0 : ByteArray) (a1 : Int) (a2 : Int) : Option (Int × (List (S37)) × Bool) := (spec_pzHidden.f k a0).bind fun t226 => (if t226 = true then ((spec_l1In.f a1 0 6).bind fun t227 => (if t227 = true then ((spec_l1In.f a2 0 9999).bind fun t228 => (spec_MakePuzzle.j0 k a0 a1 a2 (!t228))) else (spec_MakePuzzle.j0 k a0 a1 a2 true))) else (spec_MakePuzzle.j0 k a0 a1 a2 true))
theorem spec_MakePuzzle.mono_l : ∀ k, (∀ y0 y1 y2 y3, LeO (spec_MakePuzzle.j0 k y0 y1 y2 y3) (spec_MakePuzzle.j0 (k + 1) y0 y1 y2 y3)) ∧ (∀ y0 y1 y2 y3 y4, LeO (spec_MakePuzzle.l0 k y0 y1 y2 y3 y4) (spec_MakePuzzle.l0 (k + 1) y0 y1 y2 y3 y4))
  | 0 => ⟨fun _ _ _ _ r h => by simp [spec_MakePuzzle.j0] at h, fun _ _ _ _ _ r h => by simp [spec_MakePuzzle.l0] at h⟩
  | k + 1 => by
    obtain ⟨ih0, ih1⟩ := spec_MakePuzzle.mono_l k
    refine ⟨?q0, ?q1⟩
    case' q0 => (intros; unfold spec_MakePuzzle.j0)
    case' q1 => (intros; unfold spec_MakePuzzle.l0)
    all_goals repeat' first
     | (with_reducible exact ih0 _ _ _ _)
     | (with_reducible exact ih1 _ _ _ _ _)
     | (with_reducible exact spec_pzHidden.mono _ _)
     | (with_reducible exact spec_pzOf.mono _ _ _ _)
     | (with_reducible exact LeO.refl _)
     | (with_reducible exact LeO.none _)
     | (with_reducible refine LeO.ite ?_ ?_)
     | (with_reducible refine LeO.bind ?_ (fun _ => ?_))
     | exact ih0 _ _ _ _
     | exact ih1 _ _ _ _ _
     | exact spec_pzHidden.mono _ _
     | exact spec_pzOf.mono _ _ _ _
     | exact LeO.none _
     | refine LeO.ite ?_ ?_
     | refine LeO.bind ?_ (fun _ => ?_)
theorem spec_MakePuzzle.mono : ∀ a0 a1 a2 k, LeO (spec_MakePuzzle.f k a0 a1 a2) (spec_MakePuzzle.f (k + 1) a0 a1 a2) := by
  intro a0 a1 a2 k
  obtain ⟨ih0, ih1⟩ := spec_MakePuzzle.mono_l k
  unfold spec_MakePuzzle.f
  repeat' first
      | (with_reducible exact ih0 _ _ _ _)
      | (with_reducible exact ih1 _ _ _ _ _)
      | (with_reducible exact spec_pzHidden.mono _ _)
      | (with_reducible exact spec_pzOf.mono _ _ _ _)
      | (with_reducible exact LeO.refl _)
      | (with_reducible exact LeO.none _)
      | (with_reducible refine LeO.ite ?_ ?_)
      | (with_reducible refine LeO.bind ?_ (fun _ => ?_))
      | exact ih0 _ _ _ _
      | exact ih1 _ _ _ _ _
      | exact spec_pzHidden.mono _ _
      | exact spec_pzOf.mono _ _ _ _
      | exact LeO.none _
      | refine LeO.ite ?_ ?_
      | refine LeO.bind ?_ (fun _ => ?_)
def spec_MakePuzzle.T10 : Bool × List (List Nat × List Nat) := (true, [([], []), ([0], [0]), ([], []), ([], []), ([], []), ([2, 3, 4], [2, 3, 4]), ([5], [5]), ([1, 6, 5], [1, 6]), ([0, 1, 2, 3, 4, 5, 6, 7], []), ([8, 7, 7, 0, 1, 2, 3, 4, 5, 6, 7], [7, 8])])
def spec_MakePuzzle.B10 : List Nat := [0, 1, 0, 0, 0, 28, 60, 127, 255, 511]
theorem spec_MakePuzzle.tab10 : rtab .any (opsOf Tryz.f7 10) = spec_MakePuzzle.T10 := by kernel_rfl
theorem spec_MakePuzzle.bits10 : waitsOk spec_MakePuzzle.T10.2 spec_MakePuzzle.B10 = true := by kernel_rfl
set_option maxHeartbeats 8000000 in
set_option maxRecDepth 100000 in
theorem spec_MakePuzzle.calls (k : Nat) (a0 : ByteArray) (a1 : Int) (a2 : Int) (r1 : Int) (r2 : List (S37)) (r3 : Bool) (w : World) (h : spec_MakePuzzle.f k a0 a1 a2 = some (r1, r2, r3)) :
  Calls Tryz.prog 7 #[.string a0, .int .i64 a1, .int .i64 a2] w fun e w' => ∃ v1_ : Value, e = .returned (.tuple #[.agg #[.int .i64 r1, v1_], .bool r3]) ∧ Kd.R k37 37 w' w.heap.size (fun _ => True) v1_ r2 ∧ Below w.heap.size w w' := by
 have hu28 := Tryz.underlying28
 have HB := Aside0.mk (Below.refl w.heap.size w)
 unfold spec_MakePuzzle.f at h
 have H := h
 clear h
 have HC4 := Aside0.mk H
 clear H
 go_enter Tryz.func7, Tryz.ntmps7
 go_upto_region 1 with (first | ((with_reducible refine gd 6 ?_); refine bx 6 28 #[.int .i64 0, .slice none 0 0] ?_; intro gb225 hg w5 hbox hb; have BK225 := hbox; have GW225 := gs hg; have GE225 := gs hg; replace HB := bs hb; clear hb hbox hg))
 (try simp only [Act.put, List.setIfInBounds_toArray, List.set_cons_zero, List.set_cons_succ])
 go_cut [23] (fun v23 wc => ∃ (kq : Nat) (x23_3 : Bool), v23 = .bool x23_3 ∧ Aside0 (spec_MakePuzzle.j0 kq a0 a1 a2 x23_3 = some (r1, r2, r3)) ∧ Aside0 (kq ≤ k) ∧ Aside0 (wc.heap[gb225]? = some (.cells #[.int .i64 0, (.slice none 0 0)] 28 (0, 0))) ∧ Aside0 (Below w.heap.size w wc))
 case first =>
  have H := HC4.out
  clear HC4
  obtain ⟨t226, A6, H⟩ := ob H
  (try dsimp only at H)
  by_cases c7 : t226 = true
  ·subst c7
   rw [if_pos rfl] at H
   obtain ⟨t227, A8, H⟩ := ob H
   (try dsimp only at H)
   by_cases c9 : t227 = true
   ·subst c9
    rw [if_pos rfl] at H
    obtain ⟨t228, A10, H⟩ := ob H
    (try dsimp only at H)
    have H' := Aside0.mk H
    clear H
    go_wp2_with (first | ((with_reducible refine gc 43 ?_); refine gl (some 12) Tryz.func43 #[.string a0] ?_; (with_reducible refine (spec_pzHidden.calls k a0 true _ A6.out).mono ?_); rintro e w' ⟨rfl, ⟨nd, rfl⟩⟩; refine ⟨_, rfl, ?_⟩) | (go_at_call 44; (with_reducible refine (spec_l1In.calls a1 0 6 true _ A8.out).mono ?_); rintro e w' ⟨rfl, ⟨nd, rfl⟩⟩) | (go_at_call 44; (with_reducible refine (spec_l1In.calls a2 0 9999 t228 _ A10.out).mono ?_); rintro e w' ⟨rfl, ⟨nd, rfl⟩⟩))
    go_meet
    case rel => exact ⟨_, (!t228), (rs), H', ⟨by first | omega | exact Nat.le_refl _⟩, ⟨pk BK225⟩, ⟨bw⟩⟩
   replace c9 := Bool.eq_false_iff.mpr c9
   subst c9
   rw [if_neg (show ¬ (false = true) by decide)] at H
   have H' := Aside0.mk H
   clear H
   go_wp2_with (first | ((with_reducible refine gc 43 ?_); refine gl (some 12) Tryz.func43 #[.string a0] ?_; (with_reducible refine (spec_pzHidden.calls k a0 true _ A6.out).mono ?_); rintro e w' ⟨rfl, ⟨nd, rfl⟩⟩; refine ⟨_, rfl, ?_⟩) | (go_at_call 44; (with_reducible refine (spec_l1In.calls a1 0 6 false _ A8.out).mono ?_); rintro e w' ⟨rfl, ⟨nd, rfl⟩⟩))
   go_meet
   case rel => exact ⟨_, (true), (rs), H', ⟨by first | omega | exact Nat.le_refl _⟩, ⟨pk BK225⟩, ⟨bw⟩⟩
  replace c7 := Bool.eq_false_iff.mpr c7
  subst c7
  rw [if_neg (show ¬ (false = true) by decide)] at H
  have H' := Aside0.mk H
  clear H
  go_wp2_with (first | ((with_reducible refine gc 43 ?_); refine gl (some 12) Tryz.func43 #[.string a0] ?_; (with_reducible refine (spec_pzHidden.calls k a0 false _ A6.out).mono ?_); rintro e w' ⟨rfl, ⟨nd, rfl⟩⟩; refine ⟨_, rfl, ?_⟩))
  go_meet
  case rel => exact ⟨_, (true), (rs), H', ⟨by first | omega | exact Nat.le_refl _⟩, ⟨pk BK225⟩, ⟨bw⟩⟩
 case rest =>
  clear HC4
  try clear p2
  try clear c4
  try clear c7
  try clear c9
  obtain ⟨kq, x23_3, rfl, HA, HJ3, BK225, HB⟩ := hcut
  cases kq with
  | zero => exact absurd HA.out (by simp [spec_MakePuzzle.j0])
  | succ kj3 =>
   have H := HA.out
   clear HA
   simp only [spec_MakePuzzle.j0] at H
   by_cases c11 : x23_3 = true
   ·subst c11
    rw [if_pos rfl] at H
    simp only [Option.some.injEq, Prod.mk.injEq] at H
    obtain ⟨rfl, rfl, rfl⟩ := H
    have hcz12_0 : wc.cell? ⟨gb225, 0, none⟩ = some (.int .i64 0) := ec BK225
    have hcz12_1 : wc.cell? ⟨gb225, 1, none⟩ = some (.slice none 0 0) := ec BK225
    have hfz12_0 := blk_frozen BK225.out 0
    have hfz12_1 := blk_frozen BK225.out 1
    go_wp2
    refine bodyPost_ret (results_ct rfl _ _ gb225 28 #[.int .i64 0, .slice none 0 0] (0, 0) _ rfl (pz BK225) Tryz.underlying28 rfl (by kernel_rfl)) rfl ?_
    exact ⟨_, rs, by first | exact Kd.R_nil _ _ _ _ _ | exact Kd.N_nil _ _ _ _ _ | exact Kd.V_nil _ _ _ _ _ | exact Kd.Q_nil _ _ _ _ _ | exact Kd.S_nil _ _ _ _ _, bw⟩
   replace c11 := Bool.eq_false_iff.mpr c11
   subst c11
   rw [if_neg (show ¬ (false = true) by decide)] at H
   have H' := Aside0.mk H
   clear H
   go_wp2_with (first | ((with_reducible refine gd 8 ?_); refine bx 8 28 #[.int .i64 0, .slice none 0 0] ?_; intro gb229 hg w13 hbox hb; have BK229 := hbox; have GW229 := gs hg; have GE229 := gs hg; replace HB := bs hb; have ⟨NB225_229, NB229_225⟩ := nn BK225 hg; replace BK225 := nk BK225 hb; clear hb hbox hg; have hnb14 := NB229_225.out; have hnc14 := NB225_229.out; obtain ⟨hcz15_0, hcz15_1, hfz15_0, hfz15_1⟩ := z2 BK229))
   go_loopg [1, 9] kj3 (fun kq v1 v9 w' => ∃ (x1_2 : Int) (x9_2 : Int) (x230001_2 : List (S37)) (u230001 : Value), v1 = .int .i64 x1_2 ∧ v9 = .int .i64 x9_2 ∧ Aside0 (spec_MakePuzzle.l0 kq a0 x1_2 x9_2 (a0.size : Int) x230001_2 = some (r1, r2, r3)) ∧ Aside0 (kq ≤ kj3) ∧ Aside0 (Kd.R k37 37 w' w.heap.size (fun _ => True) u230001 x230001_2) ∧ Aside0 (w'.heap[gb225]? = some (.cells #[.int .i64 0, (.slice none 0 0)] 28 (0, 0))) ∧ Aside0 (w'.heap[gb229]? = some (.cells #[.int .i64 (a0.size : Int), u230001] 28 (0, 0))) ∧ Aside0 (Below w.heap.size w w'))
   case atStart => exact ⟨(a1), (a2), (([] : List (S37))), (.slice none 0 0), (rs), (rs), H', ⟨Nat.le_refl _⟩, ⟨by first | exact Kd.R_nil _ _ _ _ _ | exact Kd.N_nil _ _ _ _ _ | exact Kd.V_nil _ _ _ _ _ | exact Kd.Q_nil _ _ _ _ _ | exact Kd.S_nil _ _ _ _ _⟩, ⟨pf BK225⟩, ⟨pz BK229⟩, ⟨bw⟩⟩
   case round =>
    clear H'
    try clear c1
    try clear p2
    try clear c4
    try clear c7
    try clear c9
    try clear c11
    try clear c14
    try clear hcz12_0
    try clear hcz12_1
    try clear hcz15_0
    try clear hcz15_1
    try clear hfz12_0
    try clear hfz12_1
    try clear hfz15_0
    try clear hfz15_1
    try clear p2
    obtain ⟨x1_2, x9_2, x230001_2, u230001, rfl, rfl, HA, HK2, HO_230001, BK225, BK229, HB⟩ := hrel
    cases gk with
    | zero => exact absurd HA.out (by simp [spec_MakePuzzle.l0])
    | succ k2 =>
     have H := HA.out
     clear HA
     simp only [spec_MakePuzzle.l0] at H
     by_cases c16 : x1_2 > 0
     ·rw [if_pos c16] at H
      have c16b0 := decide_eq_true c16
      clear c16
      obtain ⟨t230, A17, H⟩ := ob H
      (try dsimp only at H)
      obtain ⟨t231, A18, H⟩ := ob H
      (try dsimp only at H)
      obtain ⟨⟨t232, t233, t234, t235⟩, A19, H⟩ := ob H
      (try dsimp only at H)
      obtain ⟨c20, H⟩ := oi H
      have LMc20 := Aside0.mk c20
      clear c20
      obtain ⟨y236, hy236⟩ : ∃ y_ : List (S37), y_ = (x230001_2 ++ [(⟨t232, t233, t234, t235⟩ : S37)]) := ⟨_, rfl⟩
      replace H : (spec_MakePuzzle.l0 k2 a0 (wrap64 (x1_2 - 1)) t231 (a0.size : Int) y236) = some (r1, r2, r3) := by first | (rw [hy236]; with_reducible exact H) | (have H2_ := (Option.bind_some _ _).symm.trans H; rw [hy236]; with_reducible exact H2_) | (have H2_ := (Option.bind_some _ _).symm.trans H; with_reducible exact H2_) | with_reducible exact H | (rw [hy236]; exact H) | exact H
      have Ny236 := Aside0.mk hy236
      clear hy236
      have H' := Aside0.mk H
      clear H
      try go_wp2_with (first | ((with_reducible refine gc 45 ?_); refine gl (some 34) Tryz.func45 #[.int .i64 x9_2] ?_; (with_reducible refine (spec_pzNext.calls x9_2 t230 _ A17.out).mono ?_); rintro e w' ⟨rfl, ⟨nd, rfl⟩⟩; refine ⟨_, rfl, ?_⟩; (try (rw [drewN_self wr]; generalize hq_ : World.drewN wr _ = wr; have n0_ : Aside0 (Kd.R k37 37 wr w.heap.size (fun _ => True) u230001 x230001_2) := ⟨by rw [← hq_]; exact (pr HO_230001)⟩; have n1_ : Aside0 (wr.heap[gb225]? = some (.cells #[.int .i64 0, .slice none 0 0] 28 (0, 0))) := ⟨by rw [← hq_]; exact (pk BK225)⟩; have n2_ : Aside0 (wr.heap[gb229]? = some (.cells #[.int .i64 (a0.size : Int), u230001] 28 (0, 0))) := ⟨by rw [← hq_]; exact (pk BK229)⟩; have n3_ : Aside0 (Below w.heap.size w wr) := ⟨by rw [← hq_]; exact bw⟩; clear HO_230001 BK225 BK229 HB hq_; have HO_230001 := n0_; have BK225 := n1_; have BK229 := n2_; have HB := n3_; clear n0_ n1_ n2_ n3_))) | ((with_reducible refine gc 45 ?_); refine gl (some 38) Tryz.func45 #[.int .i64 t230] ?_; (with_reducible refine (spec_pzNext.calls t230 t231 _ A18.out).mono ?_); rintro e w' ⟨rfl, ⟨nd, rfl⟩⟩; refine ⟨_, rfl, ?_⟩; (try (rw [drewN_self wr]; generalize hq_ : World.drewN wr _ = wr; have n0_ : Aside0 (Kd.R k37 37 wr w.heap.size (fun _ => True) u230001 x230001_2) := ⟨by rw [← hq_]; exact (pr HO_230001)⟩; have n1_ : Aside0 (wr.heap[gb225]? = some (.cells #[.int .i64 0, .slice none 0 0] 28 (0, 0))) := ⟨by rw [← hq_]; exact (pk BK225)⟩; have n2_ : Aside0 (wr.heap[gb229]? = some (.cells #[.int .i64 (a0.size : Int), u230001] 28 (0, 0))) := ⟨by rw [← hq_]; exact (pk BK229)⟩; have n3_ : Aside0 (Below w.heap.size w wr) := ⟨by rw [← hq_]; exact bw⟩; clear HO_230001 BK225 BK229 HB hq_; have HO_230001 := n0_; have BK225 := n1_; have BK229 := n2_; have HB := n3_; clear n0_ n1_ n2_ n3_))))
      replace HO_230001 := Aside0.mk (Kd.R_drew HO_230001.out)
      replace BK225 := Aside0.mk (blk_drew BK225.out)
      replace BK229 := Aside0.mk (blk_drew BK229.out)
      replace HB := Aside0.mk (below_drew1 HB.out)
      refine start_ (n := 10) (S := fun w' => w'.cell? ⟨gb229, 0, none⟩ = some (.int .i64 (a0.size : Int)) ∧ w'.cell? ⟨gb229, 1, none⟩ = some (u230001)) (ds := [9]) (tb 10 0) (by kernel_rfl) rfl rfl ⟨ec BK229, ec BK229⟩ (fun hHeld => ?_); refine with_tabW spec_MakePuzzle.tab10 spec_MakePuzzle.bits10 (fun HT_ HW_ => ?_)
      generalize wr.drew = w21 at HO_230001 BK225 BK229 HB hHeld ⊢
      refine pu 0 (some 39) (tb 10 1) ?_
      refine pu 2 (some 41) (tb 10 5) ?_
      refine pu 3 (some 42) (tb 10 13) ?_
      refine pu 4 (some 43) (tb 10 29) ?_
      refine tk 1 (some 40) (tb 10 31) hHeld ?_
      refine one_ (i := 5) (N := some 44) (tb 10 63) rfl rfl (one_of HT_.out (by kernel_rfl)) (by decide) (fun K hK => ?_)
      refine go1 Tryz.func46 #[.int .i64 (Int.tmod t230 5), .int .i64 t231, .string a0] ?_
      with_reducible refine (spec_pzOf.calls k2 (Int.tmod t230 5) t231 a0 t232 t233 t234 t235 _ A19.out).mono ?_
      rintro e w22 ⟨rfl, hb⟩
      refine ⟨_, rfl, ?_⟩
      replace HO_230001 := rl HO_230001 hb
      replace BK225 := nk BK225 hb
      replace BK229 := nk BK229 hb
      replace HB := bs hb
      (try clear hb)
      refine hK.out _ _ ⟨ec BK229, ec BK229⟩ (fun hHeld => ?_)
      clear hK K
      refine nm (some 44) ?_
      refine one_ (i := 6) (N := some 45) (tb 10 127) rfl rfl (one_of HT_.out (by kernel_rfl)) (by decide) (fun K hK => ?_)
      refine value_ (w1 := ?_) (v := ?_) (by rfl) rfl ?_ ?_
      rotate_left 2
      ·go_simp
       constructor
       ·rfl
       rfl
      refine hK.out _ _ ⟨(blk_cell (blk_alloc BK229.out _) 0).trans rfl, (blk_cell (blk_alloc BK229.out _) 1).trans rfl⟩ (fun hHeld => ?_)
      clear hK K
      refine nm (some 45) ?_
      refine one_ (i := 7) (N := some 46) (tb 10 255) rfl rfl (one_of HT_.out (by kernel_rfl)) (by decide) (fun K hK => ?_)
      refine Kd.R_append_step k37 (w0 := w) w.heap.size (by rfl) (.tmp 40) (.tmp 45) 26 37 (.agg #[(.int .i64 0), (.int .i64 0), (.int .i64 0), (.int .i64 0)]) 32 rfl Tryz.underlying26 info37 rfl (by decide) (by omega) u230001 x230001_2 (⟨t232, t233, t234, t235⟩ : S37) [.int .i64 t232, .int .i64 t233, .int .i64 t234, .int .i64 t235] (fun _ => True) (fun _ => False) rfl rfl ?aP (fun _ hk => hk.elim) ?aF ?aO ?aB ?aS ?aL ?_
      (case aP => exact k37_mkM _ _ _ (⟨t232, t233, t234, t235⟩ : S37))
      (case aB => exact bw)
      (case aF => exact (fun _ _ => trivial))
      (case aO => exact (pr HO_230001))
      (case aS => exact (below_size bw))
      (case aL => have := LMc20.out; omega)
      intro v237 w23 ho hb hg hat
      rw [← Ny236.out] at ho
      have n0_ := Aside0.mk (blk_grown (pk BK225) hg (Kd.R_ne HO_230001.out BK225.out (by decide)))
      have n1_ := Aside0.mk (blk_grown (pk BK229) hg (Kd.R_ne HO_230001.out BK229.out (by decide)))
      have n2_ := Aside0.mk (hb)
      have n3_ := Aside0.mk (ho)
      clear BK225
      clear BK229
      clear HB
      clear HO_230001
      have BK225 := n0_
      have BK229 := n1_
      have HB := n2_
      have HO238 := n3_
      clear n0_ n1_ n2_ n3_
      clear ho hb hg hat
      obtain ⟨Ao24, co24, eo24⟩ := Kd.R_slice HO238.out
      (first | subst eo24 | (injection eo24 with f1_ f2_ f3_; have f4_ := f1_.symm; have f5_ := f3_.symm; clear f1_ f2_ f3_; subst f4_; subst f5_))
      refine hK.out _ _ ⟨ec BK229, ec BK229⟩ (fun hHeld => ?_)
      clear hK K
      refine nm (some 46) ?_
      refine pu 8 (some 47) (tb 10 511) ?_
      refine last_ (i := 9) (N := none) (tb 10 1023) rfl rfl (one_of HT_.out (by kernel_rfl)) (by decide) (fun K hK => ?_)
      have hs25 : w23.cell? ⟨gb229, 1, none⟩ = some (u230001) := ec BK229
      have hfs25 := blk_frozen BK229.out 1
      have hns25_0 := NB225_229.out
      have hms25_0 := NB229_225.out
      refine skip_ (w1 := ?_) (by rfl) rfl ?_ ?_
      rotate_left
      ·go_simp
       rfl
      refine hK.out _ _ ?_
      clear hK K
      refine done_ (done_of HT_.out (by kernel_rfl)) ?_
      try go_wp2
      go_roundg k2
      case measure => have := HJ3.out; have := HK2.out; omega
      case rel => exact ⟨(wrap64 (x1_2 - 1)), (t231), (y236), (.slice Ao24 y236.length co24), (rs), (rs), H', ⟨by have := HJ3.out; have := HK2.out; omega⟩, ⟨by (with_reducible repeat (first | apply Kd.R_alloc | apply Kd.R_drewN | apply Kd.R_drew)); exact Kd.R_mono (Kd.R_far (p := ⟨gb229, 1, none⟩) (Kd.R_types HO238.out BK229.out (by decide)) (fun _ hk => hk.2) (.slice Ao24 y236.length co24)) (fun _ hk => trivial)⟩, ⟨pf BK225⟩, ⟨pz BK229⟩, ⟨bw⟩⟩
     rw [if_neg c16] at H
     have c16b0 := decide_eq_false c16
     clear c16
     simp only [Option.some.injEq, Prod.mk.injEq] at H
     obtain ⟨rfl, rfl, rfl⟩ := H
     have hnb26 := nb NB229_225
     have hcz27_0 : wr.cell? ⟨gb229, 0, none⟩ = some (.int .i64 (a0.size : Int)) := ec BK229
     have hcz27_1 : wr.cell? ⟨gb229, 1, none⟩ = some (u230001) := ec BK229
     have hfz27_0 := blk_frozen BK229.out 0
     have hfz27_1 := blk_frozen BK229.out 1
     have hcz28_0 : wr.cell? ⟨gb225, 0, none⟩ = some (.int .i64 0) := ec BK225
     have hcz28_1 : wr.cell? ⟨gb225, 1, none⟩ = some (.slice none 0 0) := ec BK225
     have hfz28_0 := blk_frozen BK225.out 0
     have hfz28_1 := blk_frozen BK225.out 1
     obtain ⟨Ao29, co29, eo29⟩ := Kd.R_slice HO_230001.out
     subst eo29
     go_wp2
     refine bodyPost_ret (results_ct rfl _ _ gb225 28 #[.int .i64 (a0.size : Int), .slice Ao29 x230001_2.length co29] (0, 0) _ rfl (pz BK225) Tryz.underlying28 rfl (by kernel_rfl)) rfl ?_
     exact ⟨_, rs, by (with_reducible repeat (first | apply Kd.R_alloc | apply Kd.R_drewN | apply Kd.R_drew)); exact Kd.R_mono (Kd.R_far (p := ⟨gb225, 1, none⟩) (Kd.R_far (p := ⟨gb225, 0, none⟩) (Kd.R_types HO_230001.out BK225.out (by decide)) (fun _ hk => hk.2) (.int .i64 (a0.size : Int))) (fun _ hk => hk.2) (.slice Ao29 x230001_2.length co29)) (fun _ hk => trivial), bw⟩

/-! ### laws_vPuzzle: function 8 -/
mutual
def laws_vPuzzle.j0 : Nat → Bool → Int → List (S37) → Int → List (S37) → Option (Bool)
  | 0, _, _, _, _, _ => none
  | k + 1, x19, x240000, x240001, x241000, x241001 => if x19 = true then (some false) else (laws_vPuzzle.l0 k (x240001.length : Int) 0 x240000 x240001 x241000 x241001)
def laws_vPuzzle.l0 : Nat → Int → Int → Int → List (S37) → Int → List (S37) → Option (Bool)
  | 0, _, _, _, _, _, _ => none
  | k + 1, x22, x23, x240000, x240001, x241000, x241001 => if x23 < x22 then (if 0 ≤ x23 then (if x23 < (x240001.length : Int) then (if x23 < (x241001.length : Int) then (if (!(((rd_T37 x240001 x23).f0) == ((rd_T37 x241001 x23).f0)) || (!(((rd_T37 x240001 x23).f1) == ((rd_T37 x241001 x23).f1)) || (!(((rd_T37 x240001 x23).f2) == ((rd_T37 x241001 x23).f2)) || (!(((rd_T37 x240001 x23).f3) == ((rd_T37 x241001 x23).f3)))))) = true then (some false) else (laws_vPuzzle.l0 k x22 (wrap64 (x23 + 1)) x240000 x240001 x241000 x241001)) else (none)) else (none)) else (none)) else (some true)
end
def laws_vPuzzle.f (k : Nat) (a0_0 : Int) (l0_1 : List (S37)) (a1_0 : Int) (l1_1 : List (S37)) : Option (Bool) := if a0_0 = a1_0 then (laws_vPuzzle.j0 k ((l0_1.length : Int) != (l1_1.length : Int)) a0_0 l0_1 a1_0 l1_1) else (laws_vPuzzle.j0 k true a0_0 l0_1 a1_0 l1_1)
theorem laws_vPuzzle.mono_l : ∀ k, (∀ y0 y1 y2 y3 y4, LeO (laws_vPuzzle.j0 k y0 y1 y2 y3 y4) (laws_vPuzzle.j0 (k + 1) y0 y1 y2 y3 y4)) ∧ (∀ y0 y1 y2 y3 y4 y5, LeO (laws_vPuzzle.l0 k y0 y1 y2 y3 y4 y5) (laws_vPuzzle.l0 (k + 1) y0 y1 y2 y3 y4 y5))
  | 0 => ⟨fun _ _ _ _ _ r h => by simp [laws_vPuzzle.j0] at h, fun _ _ _ _ _ _ r h => by simp [laws_vPuzzle.l0] at h⟩
  | k + 1 => by
    obtain ⟨ih0, ih1⟩ := laws_vPuzzle.mono_l k
    refine ⟨?q0, ?q1⟩
    case' q0 => (intros; unfold laws_vPuzzle.j0)
    case' q1 => (intros; unfold laws_vPuzzle.l0)
    all_goals repeat' first
     | (with_reducible exact ih0 _ _ _ _ _)
     | (with_reducible exact ih1 _ _ _ _ _ _)
     | (with_reducible exact LeO.refl _)
     | (with_reducible exact LeO.none _)
     | (with_reducible refine LeO.ite ?_ ?_)
     | (with_reducible refine LeO.bind ?_ (fun _ => ?_))
     | exact ih0 _ _ _ _ _
     | exact ih1 _ _ _ _ _ _
     | exact LeO.none _
     | refine LeO.ite ?_ ?_
     | refine LeO.bind ?_ (fun _ => ?_)
theorem laws_vPuzzle.mono : ∀ a0 a1 a2 a3 k, LeO (laws_vPuzzle.f k a0 a1 a2 a3) (laws_vPuzzle.f (k + 1) a0 a1 a2 a3) := by
  intro a0 a1 a2 a3 k
  obtain ⟨ih0, ih1⟩ := laws_vPuzzle.mono_l k
  unfold laws_vPuzzle.f
  repeat' first
      | (with_reducible exact ih0 _ _ _ _ _)
      | (with_reducible exact ih1 _ _ _ _ _ _)
      | (with_reducible exact LeO.refl _)
      | (with_reducible exact LeO.none _)
      | (with_reducible refine LeO.ite ?_ ?_)
      | (with_reducible refine LeO.bind ?_ (fun _ => ?_))
      | exact ih0 _ _ _ _ _
      | exact ih1 _ _ _ _ _ _
      | exact LeO.none _
      | refine LeO.ite ?_ ?_
      | refine LeO.bind ?_ (fun _ => ?_)
set_option maxHeartbeats 8000000 in
set_option maxRecDepth 100000 in
theorem laws_vPuzzle.calls (k : Nat) (a0_0 : Int) (A0_1 : Option Addr) (c0_1 : Nat) (l0_1 : List (S37)) (a1_0 : Int) (A1_1 : Option Addr) (c1_1 : Nat) (l1_1 : List (S37)) (r : Bool) (w : World) (hr0_1 : Kd.C k37 w A0_1 l0_1.length l0_1) (hc0_1 : l0_1.length ≤ c0_1) (hr1_1 : Kd.C k37 w A1_1 l1_1.length l1_1) (hc1_1 : l1_1.length ≤ c1_1) (h : laws_vPuzzle.f k a0_0 l0_1 a1_0 l1_1 = some r) :
  Calls Tryz.prog 8 #[.agg #[.int .i64 a0_0, .slice A0_1 l0_1.length c0_1], .agg #[.int .i64 a1_0, .slice A1_1 l1_1.length c1_1]] w fun e w' => e = .returned (.bool r) ∧ Below w.heap.size w w' := by
 have hu28 := Tryz.underlying28
 have hu37 := Tryz.underlying37
 have HR0_1 := Aside0.mk hr0_1
 have HC0_1 := Aside0.mk hc0_1
 clear hr0_1 hc0_1
 have HR1_1 := Aside0.mk hr1_1
 have HC1_1 := Aside0.mk hc1_1
 clear hr1_1 hc1_1
 have HB := Aside0.mk (Below.refl w.heap.size w)
 unfold laws_vPuzzle.f at h
 have H := h
 clear h
 have HC3 := Aside0.mk H
 clear H
 go_enter Tryz.func8, Tryz.ntmps8
 iterate 16 ((try go_upto_region 1 with (first | ((with_reducible refine gd 2 ?_); (try (refine gate_guard (by rfl) ?_; dsimp only)); refine bx 2 28 #[.int .i64 a0_0, .slice A0_1 l0_1.length c0_1] ?_; intro gb239 hg w4 hbox hb; have BK239 := hbox; have GW239 := gs hg; have GE239 := gs hg; replace HB := bs hb; clear hb hbox hg) | ((with_reducible refine gd 3 ?_); (try (refine gate_guard (by rfl) ?_; dsimp only)); refine bx 3 28 #[.int .i64 a1_0, .slice A1_1 l1_1.length c1_1] ?_; intro gb240 hg w5 hbox hb; have BK240 := hbox; have GW240 := gs hg; have GE240 := gs hg; replace HB := bs hb; have ⟨NB239_240, NB240_239⟩ := nn BK239 hg; replace BK239 := nk BK239 hb; clear hb hbox hg))); (try go_quiet (fail)))
 (try simp only [Act.put, List.setIfInBounds_toArray, List.set_cons_zero, List.set_cons_succ])
 go_cut [19] (fun v19 wc => ∃ (kq : Nat) (x19_2 : Bool), v19 = .bool x19_2 ∧ Aside0 (laws_vPuzzle.j0 kq x19_2 a0_0 l0_1 a1_0 l1_1 = some r) ∧ Aside0 (kq ≤ k) ∧ Aside0 (wc.heap[gb239]? = some (.cells #[.int .i64 a0_0, (.slice A0_1 l0_1.length c0_1)] 28 (0, 0))) ∧ Aside0 (wc.heap[gb240]? = some (.cells #[.int .i64 a1_0, (.slice A1_1 l1_1.length c1_1)] 28 (0, 0))) ∧ Aside0 (Below w.heap.size w wc))
 case first =>
  have H := HC3.out
  clear HC3
  by_cases c6 : a0_0 = a1_0
  ·rw [if_pos c6] at H
   have c6b0 : (a0_0 == a1_0) = true := beq_iff_eq.mpr c6
   have c6b1 : (a0_0 != a1_0) = false := bne_eq_false_iff_eq.mpr c6
   clear c6
   (first | rw [c6b0] | rw [@decide_eq_true _ _ (of_decide_eq_true c6b1)] | rw [@decide_eq_false _ _ (of_decide_eq_false c6b1)] | (simp only [i64_w, i32_w]; rw [c6b0]) | skip)
   have H' := Aside0.mk H
   clear H
   have hnb7 := nb NB239_240
   obtain ⟨hcz8_0, hcz8_1, hfz8_0, hfz8_1⟩ := z2 BK239
   obtain ⟨hcz9_0, hcz9_1, hfz9_0, hfz9_1⟩ := z2 BK240
   go_wp2
   repeat (go_quiet (fail); try go_wp2)
   go_meet
   case rel => exact ⟨_, (((l0_1.length : Int) != (l1_1.length : Int))), (rs), H', ⟨by first | omega | exact Nat.le_refl _⟩, ⟨pk BK239⟩, ⟨pk BK240⟩, ⟨bw⟩⟩
  rw [if_neg c6] at H
  have c6b0 : (a0_0 == a1_0) = false := beq_eq_false_iff_ne.mpr c6
  have c6b1 : (a0_0 != a1_0) = true := bne_iff_ne.mpr c6
  (first | rw [c6b0] | rw [@decide_eq_true _ _ (of_decide_eq_true c6b1)] | rw [@decide_eq_false _ _ (of_decide_eq_false c6b1)] | (simp only [i64_w, i32_w]; rw [c6b0]) | skip)
  have H' := Aside0.mk H
  clear H
  have hnb10 := nb NB239_240
  obtain ⟨hcz11_0, hcz11_1, hfz11_0, hfz11_1⟩ := z2 BK239
  obtain ⟨hcz12_0, hcz12_1, hfz12_0, hfz12_1⟩ := z2 BK240
  go_wp2
  repeat (go_quiet (fail); try go_wp2)
  go_meet
  case rel => exact ⟨_, (true), (rs), H', ⟨by first | omega | exact Nat.le_refl _⟩, ⟨pk BK239⟩, ⟨pk BK240⟩, ⟨bw⟩⟩
 case rest =>
  clear HC3
  try clear c1
  try clear p2
  try clear c6
  try clear c6b0
  try clear c6b1
  try clear c7
  try clear c8
  try clear c10
  try clear hcz11_0
  try clear hcz11_1
  try clear hcz12_0
  try clear hcz12_1
  try clear hcz8_0
  try clear hcz8_1
  try clear hcz9_0
  try clear hcz9_1
  try clear hfz11_0
  try clear hfz11_1
  try clear hfz12_0
  try clear hfz12_1
  try clear hfz8_0
  try clear hfz8_1
  try clear hfz9_0
  try clear hfz9_1
  obtain ⟨kq, x19_2, rfl, HA, HJ2, BK239, BK240, HB⟩ := hcut
  cases kq with
  | zero => exact absurd HA.out (by simp [laws_vPuzzle.j0])
  | succ kj2 =>
   have H := HA.out
   clear HA
   simp only [laws_vPuzzle.j0] at H
   by_cases c13 : x19_2 = true
   ·subst c13
    rw [if_pos rfl] at H
    obtain rfl := Option.some.inj H
    go_wp2
    repeat (go_quiet (fail); try go_wp2)
    go_ret
    exact ⟨rs, bw⟩
   replace c13 := Bool.eq_false_iff.mpr c13
   subst c13
   rw [if_neg (show ¬ (false = true) by decide)] at H
   have H' := Aside0.mk H
   clear H
   have hnb14 := NB239_240.out
   have hnc14 := NB240_239.out
   have hcz15_0 : wc.cell? ⟨gb239, 0, none⟩ = some (.int .i64 a0_0) := ec BK239
   have hcz15_1 : wc.cell? ⟨gb239, 1, none⟩ = some (.slice A0_1 l0_1.length c0_1) := ec BK239
   have hfz15_0 := blk_frozen BK239.out 0
   have hfz15_1 := blk_frozen BK239.out 1
   go_wp2
   repeat (go_quiet (fail); try go_wp2)
   go_loopg [23] kj2 (fun kq v23 w' => ∃ (x23_2 : Int), v23 = .int .i64 x23_2 ∧ Aside0 (laws_vPuzzle.l0 kq (l0_1.length : Int) x23_2 a0_0 l0_1 a1_0 l1_1 = some r) ∧ Aside0 (kq ≤ kj2) ∧ Aside0 (w'.heap[gb239]? = some (.cells #[.int .i64 a0_0, (.slice A0_1 l0_1.length c0_1)] 28 (0, 0))) ∧ Aside0 (w'.heap[gb240]? = some (.cells #[.int .i64 a1_0, (.slice A1_1 l1_1.length c1_1)] 28 (0, 0))) ∧ Aside0 (Below w.heap.size w w'))
   case atStart => exact ⟨(0), (rs), H', ⟨Nat.le_refl _⟩, ⟨pk BK239⟩, ⟨pk BK240⟩, ⟨bw⟩⟩
   case round =>
    clear H'
    try clear c1
    try clear p2
    try clear c6
    try clear c6b0
    try clear c6b1
    try clear c7
    try clear c8
    try clear c10
    try clear c13
    try clear c14
    try clear hcz11_0
    try clear hcz11_1
    try clear hcz12_0
    try clear hcz12_1
    try clear hcz15_0
    try clear hcz15_1
    try clear hcz8_0
    try clear hcz8_1
    try clear hcz9_0
    try clear hcz9_1
    try clear hfz11_0
    try clear hfz11_1
    try clear hfz12_0
    try clear hfz12_1
    try clear hfz15_0
    try clear hfz15_1
    try clear hfz8_0
    try clear hfz8_1
    try clear hfz9_0
    try clear hfz9_1
    try clear p2
    obtain ⟨x23_2, rfl, HA, HK2, BK239, BK240, HB⟩ := hrel
    cases gk with
    | zero => exact absurd HA.out (by simp [laws_vPuzzle.l0])
    | succ k2 =>
     have H := HA.out
     clear HA
     simp only [laws_vPuzzle.l0] at H
     by_cases c16 : x23_2 < (l0_1.length : Int)
     ·rw [if_pos c16] at H
      have c16b0 := decide_eq_true c16
      clear c16
      obtain ⟨c17, H⟩ := oi H
      have c17b0 := decide_eq_true c17
      clear c17
      obtain ⟨c18, H⟩ := oi H
      have c18b0 := decide_eq_true c18
      clear c18
      obtain ⟨c19, H⟩ := oi H
      have c19b0 := decide_eq_true c19
      clear c19
      by_cases c20 : (!(((rd_T37 l0_1 x23_2).f0) == ((rd_T37 l1_1 x23_2).f0)) || (!(((rd_T37 l0_1 x23_2).f1) == ((rd_T37 l1_1 x23_2).f1)) || (!(((rd_T37 l0_1 x23_2).f2) == ((rd_T37 l1_1 x23_2).f2)) || (!(((rd_T37 l0_1 x23_2).f3) == ((rd_T37 l1_1 x23_2).f3)))))) = true
      ·rw [if_pos c20] at H
       have c20b0 : (!(((rd_T37 l0_1 x23_2).f0) == ((rd_T37 l1_1 x23_2).f0)) || (!(((rd_T37 l0_1 x23_2).f1) == ((rd_T37 l1_1 x23_2).f1)) || (!(((rd_T37 l0_1 x23_2).f2) == ((rd_T37 l1_1 x23_2).f2)) || (!(((rd_T37 l0_1 x23_2).f3) == ((rd_T37 l1_1 x23_2).f3)))))) = true := c20
       clear c20
       obtain rfl := Option.some.inj H
       have hnb21 := nb NB239_240
       have hcz22_0 : wr.cell? ⟨gb239, 0, none⟩ = some (.int .i64 a0_0) := ec BK239
       have hcz22_1 : wr.cell? ⟨gb239, 1, none⟩ = some (.slice A0_1 l0_1.length c0_1) := ec BK239
       have hfz22_0 := blk_frozen BK239.out 0
       have hfz22_1 := blk_frozen BK239.out 1
       have p241 : 0 ≤ (x23_2 : Int) := of_decide_eq_true asm
       have q241 : x23_2 < (l0_1.length : Int) := of_decide_eq_true asm
       obtain ⟨ad241, e241, hx241_0, hx241_1, hx241_2, hx241_3⟩ := at_T37 HR0_1.out x23_2 p241 q241
       cases e241
       replace hx241_0 := (HB.out.cell (World.block_lt_of_cell? w _ hx241_0)).trans hx241_0
       replace hx241_1 := (HB.out.cell (World.block_lt_of_cell? w _ hx241_1)).trans hx241_1
       replace hx241_2 := (HB.out.cell (World.block_lt_of_cell? w _ hx241_2)).trans hx241_2
       replace hx241_3 := (HB.out.cell (World.block_lt_of_cell? w _ hx241_3)).trans hx241_3
       replace p241 := eq_true p241
       replace q241 := eq_true q241
       have hcz23_0 : wr.cell? ⟨gb240, 0, none⟩ = some (.int .i64 a1_0) := ec BK240
       have hcz23_1 : wr.cell? ⟨gb240, 1, none⟩ = some (.slice A1_1 l1_1.length c1_1) := ec BK240
       have hfz23_0 := blk_frozen BK240.out 0
       have hfz23_1 := blk_frozen BK240.out 1
       have p242 : 0 ≤ (x23_2 : Int) := of_decide_eq_true asm
       have q242 : x23_2 < (l1_1.length : Int) := of_decide_eq_true asm
       obtain ⟨ad242, e242, hx242_0, hx242_1, hx242_2, hx242_3⟩ := at_T37 HR1_1.out x23_2 p242 q242
       cases e242
       replace hx242_0 := (HB.out.cell (World.block_lt_of_cell? w _ hx242_0)).trans hx242_0
       replace hx242_1 := (HB.out.cell (World.block_lt_of_cell? w _ hx242_1)).trans hx242_1
       replace hx242_2 := (HB.out.cell (World.block_lt_of_cell? w _ hx242_2)).trans hx242_2
       replace hx242_3 := (HB.out.cell (World.block_lt_of_cell? w _ hx242_3)).trans hx242_3
       replace p242 := eq_true p242
       replace q242 := eq_true q242
       go_wp2
       repeat (go_quiet (fail); try go_wp2)
       go_ret
       exact ⟨rs, bw⟩
      rw [if_neg c20] at H
      have c20b0 : (!(((rd_T37 l0_1 x23_2).f0) == ((rd_T37 l1_1 x23_2).f0)) || (!(((rd_T37 l0_1 x23_2).f1) == ((rd_T37 l1_1 x23_2).f1)) || (!(((rd_T37 l0_1 x23_2).f2) == ((rd_T37 l1_1 x23_2).f2)) || (!(((rd_T37 l0_1 x23_2).f3) == ((rd_T37 l1_1 x23_2).f3)))))) = false := by simpa using c20
      clear c20
      have H' := Aside0.mk H
      clear H
      have hnb24 := nb NB239_240
      have hcz25_0 : wr.cell? ⟨gb239, 0, none⟩ = some (.int .i64 a0_0) := ec BK239
      have hcz25_1 : wr.cell? ⟨gb239, 1, none⟩ = some (.slice A0_1 l0_1.length c0_1) := ec BK239
      have hfz25_0 := blk_frozen BK239.out 0
      have hfz25_1 := blk_frozen BK239.out 1
      have p241 : 0 ≤ (x23_2 : Int) := of_decide_eq_true asm
      have q241 : x23_2 < (l0_1.length : Int) := of_decide_eq_true asm
      obtain ⟨ad241, e241, hx241_0, hx241_1, hx241_2, hx241_3⟩ := at_T37 HR0_1.out x23_2 p241 q241
      cases e241
      replace hx241_0 := (HB.out.cell (World.block_lt_of_cell? w _ hx241_0)).trans hx241_0
      replace hx241_1 := (HB.out.cell (World.block_lt_of_cell? w _ hx241_1)).trans hx241_1
      replace hx241_2 := (HB.out.cell (World.block_lt_of_cell? w _ hx241_2)).trans hx241_2
      replace hx241_3 := (HB.out.cell (World.block_lt_of_cell? w _ hx241_3)).trans hx241_3
      replace p241 := eq_true p241
      replace q241 := eq_true q241
      have hcz26_0 : wr.cell? ⟨gb240, 0, none⟩ = some (.int .i64 a1_0) := ec BK240
      have hcz26_1 : wr.cell? ⟨gb240, 1, none⟩ = some (.slice A1_1 l1_1.length c1_1) := ec BK240
      have hfz26_0 := blk_frozen BK240.out 0
      have hfz26_1 := blk_frozen BK240.out 1
      have p242 : 0 ≤ (x23_2 : Int) := of_decide_eq_true asm
      have q242 : x23_2 < (l1_1.length : Int) := of_decide_eq_true asm
      obtain ⟨ad242, e242, hx242_0, hx242_1, hx242_2, hx242_3⟩ := at_T37 HR1_1.out x23_2 p242 q242
      cases e242
      replace hx242_0 := (HB.out.cell (World.block_lt_of_cell? w _ hx242_0)).trans hx242_0
      replace hx242_1 := (HB.out.cell (World.block_lt_of_cell? w _ hx242_1)).trans hx242_1
      replace hx242_2 := (HB.out.cell (World.block_lt_of_cell? w _ hx242_2)).trans hx242_2
      replace hx242_3 := (HB.out.cell (World.block_lt_of_cell? w _ hx242_3)).trans hx242_3
      replace p242 := eq_true p242
      replace q242 := eq_true q242
      go_wp2
      repeat (go_quiet (fail); try go_wp2)
      go_roundg k2
      case measure => have := HJ2.out; have := HK2.out; omega
      case rel => exact ⟨(wrap64 (x23_2 + 1)), (rs), H', ⟨by have := HJ2.out; have := HK2.out; omega⟩, ⟨pk BK239⟩, ⟨pk BK240⟩, ⟨bw⟩⟩
     rw [if_neg c16] at H
     have c16b0 := decide_eq_false c16
     clear c16
     obtain rfl := Option.some.inj H
     go_wp2
     repeat (go_quiet (fail); try go_wp2)
     go_ret
     exact ⟨rs, bw⟩

/-! ### impl_TicksToRest: function 9 -/
def impl_TicksToRest.f (k : Nat) (a0 : ByteArray) : Option (Int × Bool) := (impl_isRow.f a0).bind fun t243 => (if t243 = true then ((impl_ticksToRest.f k a0).bind fun t244 => (some (t244, true))) else (some (0, false)))
theorem impl_TicksToRest.mono : ∀ a0 k, LeO (impl_TicksToRest.f k a0) (impl_TicksToRest.f (k + 1) a0) := by
  intro a0 k
  unfold impl_TicksToRest.f
  repeat' first
      | (with_reducible exact impl_ticksToRest.mono _ _)
      | (with_reducible exact LeO.refl _)
      | (with_reducible exact LeO.none _)
      | (with_reducible refine LeO.ite ?_ ?_)
      | (with_reducible refine LeO.bind ?_ (fun _ => ?_))
      | exact impl_ticksToRest.mono _ _
      | exact LeO.none _
      | refine LeO.ite ?_ ?_
      | refine LeO.bind ?_ (fun _ => ?_)
set_option maxHeartbeats 8000000 in
set_option maxRecDepth 100000 in
theorem impl_TicksToRest.calls (k : Nat) (a0 : ByteArray) (r1 : Int) (r2 : Bool) (w : World) (hm : Dr.Tab w) (h : impl_TicksToRest.f k a0 = some (r1, r2)) :
  Calls Tryz.prog 9 #[.string a0] w fun e w' => e = .returned (.tuple #[.int .i64 r1, .bool r2]) ∧ Below w.heap.size w w' := by
 have HB := Aside0.mk (Below.refl w.heap.size w)
 have HMM := Aside0.mk hm
 clear hm
 unfold impl_TicksToRest.f at h
 have H := h
 clear h
 obtain ⟨t243, A2, H⟩ := ob H
 (try dsimp only at H)
 by_cases c3 : t243 = true
 ·subst c3
  rw [if_pos rfl] at H
  obtain ⟨t244, A4, H⟩ := ob H
  (try dsimp only at H)
  simp only [Option.some.injEq, Prod.mk.injEq] at H
  obtain ⟨rfl, rfl⟩ := H
  go_enter Tryz.func9, Tryz.ntmps9
  go_wp2_with (first | ((with_reducible refine gc 38 ?_); refine gl (some 5) Tryz.func38 #[.string a0] ?_; (with_reducible refine (impl_isRow.calls a0 true _ A2.out).mono ?_); rintro e w5 ⟨rfl, hb⟩; refine ⟨_, rfl, ?_⟩; replace HB := bs hb; (try clear hb)) | ((with_reducible refine gc 47 ?_); refine gl (some 8) Tryz.func47 #[.string a0] ?_; (with_reducible refine (impl_ticksToRest.calls k a0 t244 _ ?_ A4.out).mono ?_); exact Dr.mm HMM; rintro e w6 ⟨rfl, hb⟩; refine ⟨_, rfl, ?_⟩; replace HB := bs hb; (try clear hb)))
  go_ret2
  exact ⟨rs, bw⟩
 replace c3 := Bool.eq_false_iff.mpr c3
 subst c3
 rw [if_neg (show ¬ (false = true) by decide)] at H
 simp only [Option.some.injEq, Prod.mk.injEq] at H
 obtain ⟨rfl, rfl⟩ := H
 go_enter Tryz.func9, Tryz.ntmps9
 go_wp2_with (first | ((with_reducible refine gc 38 ?_); refine gl (some 5) Tryz.func38 #[.string a0] ?_; (with_reducible refine (impl_isRow.calls a0 false _ A2.out).mono ?_); rintro e w7 ⟨rfl, hb⟩; refine ⟨_, rfl, ?_⟩; replace HB := bs hb; (try clear hb)))
 go_ret2
 exact ⟨rs, bw⟩

end Go.Proofs.YthjbmojacgkdcaaGreatDoor.PFnRowsHidden
