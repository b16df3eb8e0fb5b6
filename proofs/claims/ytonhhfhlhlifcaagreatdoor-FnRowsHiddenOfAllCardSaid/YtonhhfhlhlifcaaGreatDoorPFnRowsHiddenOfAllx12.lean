-- Laid by xprint, a program of this session that runs over the kit's print.
import Derived.Test.YtonhhfhlhlifcaaGreatDoorPFnRowsHiddenOfAllx11
namespace Go.Proofs.YtonhhfhlhlifcaaGreatDoor.PFnRowsHiddenOfAll
open Go.RowKit Go.Proofs.YtonhhfhlhlifcaaGreatDoorW.PrintWords Go.Proofs.YtonhhfhlhlifcaaGreatDoorW.PrintLast Go.Proofs.YtonhhfhlhlifcaaGreatDoorW.PrintMore Go.Proofs.YtonhhfhlhlifcaaGreatDoor.Sq
attribute [local go_sem] max2_int min2_int max_two min_two max_three min_three max_four min_four   -- for this text's walks alone
set_option linter.unusedVariables false
set_option linter.unusedSimpArgs false

/-! ### spec_pzWithout: function 49 -/
def spec_pzWithout.f (l0 : List (S26)) (a1 : Int) : Option ((List (S26))) := (some (([] : List (S26)) : List (S26))).bind fun y270 => (if 0 ≤ a1 then (if a1 ≤ (l0.length : Int) then ((some (l0.take (a1 : Int).toNat : List (S26))).bind fun y273 => (if y270.length + y273.length < 4398046511104 then ((some (y270 ++ y273 : List (S26))).bind fun y277 => (if 0 ≤ (wrap64 (a1 + 1)) then (if (wrap64 (a1 + 1)) ≤ (l0.length : Int) then ((some (l0.drop ((wrap64 (a1 + 1)) : Int).toNat : List (S26))).bind fun y280 => (if y277.length + y280.length < 4398046511104 then (some (y277 ++ y280)) else (none))) else (none)) else (none))) else (none))) else (none)) else (none))
def spec_pzWithout.T1 : Bool × List (List Nat × List Nat) := (true, [([], []), ([], []), ([], []), ([1, 2], [1, 2]), ([0, 3], [0, 3]), ([], []), ([], []), ([6], [6]), ([5, 7], [5, 7]), ([4, 8, 4], [4, 8]), ([9, 9, 0, 1, 2, 3, 4, 5, 6, 7, 8, 9], [9])])
def spec_pzWithout.B1 : List Nat := [0, 0, 0, 6, 15, 0, 0, 64, 224, 511, 1023]
theorem spec_pzWithout.tab1 : rtab .any (opsOf Tryz.f49 1) = spec_pzWithout.T1 := by kernel_rfl
theorem spec_pzWithout.bits1 : waitsOk spec_pzWithout.T1.2 spec_pzWithout.B1 = true := by kernel_rfl
set_option maxHeartbeats 8000000 in
set_option maxRecDepth 100000 in
theorem spec_pzWithout.calls (A0 : Option Addr) (c0 : Nat) (l0 : List (S26)) (a1 : Int) (r : List (S26)) (w : World) (hr0 : Kd.C k26 w A0 l0.length l0) (hc0 : l0.length ≤ c0) (h : spec_pzWithout.f l0 a1 = some r) :
  Calls Tryz.prog 49 #[.slice A0 l0.length c0, .int .i64 a1] w fun e w' => ∃ v0_ : Value, e = .returned (v0_) ∧ Kd.R k26 26 w' w.heap.size (fun _ => True) v0_ r ∧ Below w.heap.size w w' := by
 have HR0 := Aside0.mk hr0
 have HC0 := Aside0.mk hc0
 clear hr0 hc0
 have HB := Aside0.mk (Below.refl w.heap.size w)
 unfold spec_pzWithout.f at h
 have H := h
 clear h
 obtain ⟨y270, hy270⟩ : ∃ y_ : List (S26), y_ = (([] : List (S26))) := ⟨_, rfl⟩
 replace H : (if 0 ≤ a1 then (if a1 ≤ (l0.length : Int) then ((some (l0.take (a1 : Int).toNat : List (S26))).bind fun y273 => (if y270.length + y273.length < 4398046511104 then ((some (y270 ++ y273 : List (S26))).bind fun y277 => (if 0 ≤ (wrap64 (a1 + 1)) then (if (wrap64 (a1 + 1)) ≤ (l0.length : Int) then ((some (l0.drop ((wrap64 (a1 + 1)) : Int).toNat : List (S26))).bind fun y280 => (if y277.length + y280.length < 4398046511104 then (some (y277 ++ y280)) else (none))) else (none)) else (none))) else (none))) else (none)) else (none)) = some r := by first | (rw [hy270]; with_reducible exact H) | (have H2_ := (Option.bind_some _ _).symm.trans H; rw [hy270]; with_reducible exact H2_) | (have H2_ := (Option.bind_some _ _).symm.trans H; with_reducible exact H2_) | with_reducible exact H | (rw [hy270]; exact H) | exact H
 have Ny270 := Aside0.mk hy270
 clear hy270
 obtain ⟨c3, H⟩ := oi H
 have c3b0 := eq_true c3
 have c3b1 := decide_eq_true c3
 clear c3
 obtain ⟨c4, H⟩ := oi H
 have c4b0 := eq_true c4
 have c4b1 := decide_eq_true c4
 clear c4
 obtain ⟨y273, hy273⟩ : ∃ y_ : List (S26), y_ = (l0.take (a1 : Int).toNat) := ⟨_, rfl⟩
 replace H : (if y270.length + y273.length < 4398046511104 then ((some (y270 ++ y273 : List (S26))).bind fun y277 => (if 0 ≤ (wrap64 (a1 + 1)) then (if (wrap64 (a1 + 1)) ≤ (l0.length : Int) then ((some (l0.drop ((wrap64 (a1 + 1)) : Int).toNat : List (S26))).bind fun y280 => (if y277.length + y280.length < 4398046511104 then (some (y277 ++ y280)) else (none))) else (none)) else (none))) else (none)) = some r := by first | (rw [hy273]; with_reducible exact H) | (have H2_ := (Option.bind_some _ _).symm.trans H; rw [hy273]; with_reducible exact H2_) | (have H2_ := (Option.bind_some _ _).symm.trans H; with_reducible exact H2_) | with_reducible exact H | (rw [hy273]; exact H) | exact H
 have Ny273 := Aside0.mk hy273
 clear hy273
 obtain ⟨c5, H⟩ := oi H
 have LMc5 := Aside0.mk c5
 clear c5
 obtain ⟨y277, hy277⟩ : ∃ y_ : List (S26), y_ = (y270 ++ y273) := ⟨_, rfl⟩
 replace H : (if 0 ≤ (wrap64 (a1 + 1)) then (if (wrap64 (a1 + 1)) ≤ (l0.length : Int) then ((some (l0.drop ((wrap64 (a1 + 1)) : Int).toNat : List (S26))).bind fun y280 => (if y277.length + y280.length < 4398046511104 then (some (y277 ++ y280)) else (none))) else (none)) else (none)) = some r := by first | (rw [hy277]; with_reducible exact H) | (have H2_ := (Option.bind_some _ _).symm.trans H; rw [hy277]; with_reducible exact H2_) | (have H2_ := (Option.bind_some _ _).symm.trans H; with_reducible exact H2_) | with_reducible exact H | (rw [hy277]; exact H) | exact H
 have Ny277 := Aside0.mk hy277
 clear hy277
 obtain ⟨ji6, hji6⟩ : ∃ j_ : Int, (wrap64 (a1 + 1)) = j_ := ⟨_, rfl⟩
 replace H : (if 0 ≤ (ji6) then (if (ji6) ≤ (l0.length : Int) then ((some (l0.drop ((ji6) : Int).toNat : List (S26))).bind fun y280 => (if y277.length + y280.length < 4398046511104 then (some (y277 ++ y280)) else (none))) else (none)) else (none)) = some r := by first | (rw [hji6] at H; exact H) | (simp only [hji6] at H ⊢; exact H)
 have hji6w : (IntKind.i64.wrap (a1 + 1)) = ji6 := (i64_w _).trans hji6
 obtain ⟨c7, H⟩ := oi H
 have c7b0 := eq_true c7
 have c7b1 := decide_eq_true c7
 clear c7
 obtain ⟨c8, H⟩ := oi H
 have c8b0 := eq_true c8
 have c8b1 := decide_eq_true c8
 clear c8
 obtain ⟨y280, hy280⟩ : ∃ y_ : List (S26), y_ = (l0.drop ((ji6) : Int).toNat) := ⟨_, rfl⟩
 replace H : (if y277.length + y280.length < 4398046511104 then (some (y277 ++ y280)) else (none)) = some r := by first | (rw [hy280]; with_reducible exact H) | (have H2_ := (Option.bind_some _ _).symm.trans H; rw [hy280]; with_reducible exact H2_) | (have H2_ := (Option.bind_some _ _).symm.trans H; with_reducible exact H2_) | with_reducible exact H | (rw [hy280]; exact H) | exact H
 have Ny280 := Aside0.mk hy280
 clear hy280
 obtain ⟨c9, H⟩ := oi H
 have LMc9 := Aside0.mk c9
 clear c9
 obtain ⟨y284, hy284⟩ : ∃ y_ : List (S26), y_ = (y277 ++ y280) := ⟨_, rfl⟩
 replace H : (some y284) = some r := by first | (rw [hy284]; with_reducible exact H) | (have H2_ := (Option.bind_some _ _).symm.trans H; rw [hy284]; with_reducible exact H2_) | (have H2_ := (Option.bind_some _ _).symm.trans H; with_reducible exact H2_) | with_reducible exact H | (rw [hy284]; exact H) | exact H
 have Ny284 := Aside0.mk hy284
 clear hy284
 obtain rfl := Option.some.inj H
 go_enter Tryz.func49, Tryz.ntmps49
 try go_wp2
 replace HB := Aside0.mk (below_drew1 HB.out)
 have q11 : (a1 : Int) ≤ ((l0.length : Int) : Int) := of_decide_eq_true asm
 obtain ⟨i011, hi011, _, hsz11, _⟩ := info_parts info26
 have hroom11 : l0.length ≤ c0 := HC0.out
 have hC11 : Kd.C k26 _ A0 l0.length l0 := HR0.out
 have hcut11 := cut_to (P := Tryz.prog) 22 26 .i64 Tryz.underlying22 hi011 A0 l0.length c0 a1 (of_decide_eq_true asm) q11 hroom11
 have hr11 := Kd.C_take (m := (a1 : Int).toNat) hC11 (by omega)
 have hy11 : y273.length = (a1 : Int).toNat := (by rw [Ny273.out, List.length_take]; omega)
 rw [← Ny273.out] at hr11
 rw [← hy11] at hcut11
 have HR276 := Aside0.mk hr11
 have HC276 := Aside0.mk (show y273.length ≤ c0 from by omega)
 clear hr11 hC11 hroom11 hi011 hsz11
 have KY11 := Aside0.mk hy11
 clear hy11
 replace q11 := eq_true q11
 have q12 : ((ji6) : Int) ≤ ((l0.length : Int) : Int) := of_decide_eq_true asm
 obtain ⟨i012, hi012, _, hsz12, _⟩ := info_parts info26
 have hroom12 : l0.length ≤ c0 := HC0.out
 have hC12 : Kd.C k26 _ A0 l0.length l0 := HR0.out
 have q012 : (0 : Int) ≤ ((ji6) : Int) := of_decide_eq_true asm
 have hcut12 := cut_from (P := Tryz.prog) 22 26 .i64 Tryz.underlying22 hi012 4 hsz12 A0 l0.length c0 (ji6) q012 q12
 have hr12 := Kd.C_drop (m := ((ji6) : Int).toNat) (c := c0) hC12 (by omega) hroom12
 obtain ⟨A12, hA12⟩ : ∃ A1, A1 = (if c0 = ((ji6) : Int).toNat then A0 else (A0 : Option Addr).map (·.add (((ji6) : Int).toNat * 4))) := ⟨_, rfl⟩
 obtain ⟨c12, hc12⟩ : ∃ c1, c1 = c0 - ((ji6) : Int).toNat := ⟨_, rfl⟩
 have hy12 : y280.length = l0.length - ((ji6) : Int).toNat := (by rw [Ny280.out, List.length_drop] <;> omega)
 rw [show (l0).drop ((ji6) : Int).toNat = y280 from Ny280.out.symm] at hr12
 replace hr12 : Kd.C k26 _ A12 y280.length y280 := (by rw [hA12]; exact hr12)
 rw [← hy12, ← hA12, ← hc12] at hcut12
 have HR283 := Aside0.mk hr12
 have HC283 := Aside0.mk (show y280.length ≤ c12 from by rw [hy12, hc12]; exact Nat.sub_le_sub_right hroom12 _)
 clear hr12 hC12 hroom12 hi012 hsz12 hc12
 have KY12 := Aside0.mk hy12
 have KA12 := Aside0.mk hA12
 clear hy12 hA12
 replace q12 := eq_true q12
 refine start_ (n := 11) (S := fun w' => True) (ds := []) (tb 11 0) (by kernel_rfl) rfl rfl trivial (fun hHeld => ?_); refine with_tabW spec_pzWithout.tab1 spec_pzWithout.bits1 (fun HT_ HW_ => ?_)
 generalize w.drew = w10 at HB HR276 HR283 hHeld ⊢
 refine pu 1 (some 6) (tb 11 2) ?_
 refine pu 2 (some 7) (tb 11 6) ?_
 refine pu 3 (some 8) (tb 11 14) ?_
 refine pu 5 (some 10) (tb 11 46) ?_
 refine pu 6 (some 11) (tb 11 110) ?_
 refine pu 7 (some 12) (tb 11 238) ?_
 refine pu 8 (some 13) (tb 11 494) ?_
 refine one_ (i := 0) (N := some 5) (tb 11 495) rfl rfl (one_of HT_.out (by kernel_rfl)) (by decide) (fun K hK => ?_)
 refine Kd.R_lit_step k26 _ 26 ?hg (N := 5) ?hd (xs := ([] : List (S26))) (inner := []) (ok := fun _ => True) (okp := fun _ => True) ?hr ?hp (fun _ hk => hk) trivial (Below.refl _ _) (Nat.le_refl _) (by simp) ?_; (case hd => rfl); (case hg => rfl); (case hr => first | (go_simp; done) | (go_simp; rfl)); (case hp => exact (Reps.none _ _))
 intro v271 w13 ho14 hb hg_ hnew_
 clear hg_ hnew_
 (first | rw [← Ny270.out] at ho14 | (simp only [Int.reduceToNat] at ho14; rw [← Ny270.out] at ho14))
 have HO272 := Aside0.mk (Kd.R_lower ho14 (below_size bw))
 replace HB := bs hb
 clear hb ho14
 refine hK.out _ _ trivial (fun hHeld => ?_)
 clear hK K
 refine nm (some 5) ?_
 refine one_ (i := 4) (N := some 9) (tb 11 511) rfl rfl (one_of HT_.out (by kernel_rfl)) (by decide) (fun K hK => ?_)
 refine Kd.R_append_rows_step k26 (w0 := w) w.heap.size (by rfl) (.tmp 5) (.tmp 8) 22 26 (.agg #[(.int .i64 0), (.int .i64 0), (.int .i64 0), (.int .i64 0)]) 32 rfl Tryz.underlying22 info26 rfl (by decide) (by omega) v271 y270 y273 _ _ _ (fun _ => True) (fun _ => False) rfl rfl ?aO ?aR (fun _ _ h => h) (fun _ h => h.elim) ?aF ?aB ?aS ?aL ?_
 (case aR => exact cb HR276)
 (case aB => exact bw)
 (case aF => exact (fun _ _ => trivial))
 (case aO => exact (pr HO272))
 (case aS => exact (below_size bw))
 (case aL => have := LMc5.out; omega)
 intro v278 w15 ho hb hg hat
 rw [← Ny277.out] at ho
 have n0_ := Aside0.mk (hb)
 have n1_ := Aside0.mk (ho)
 clear HB
 clear HO272
 have HB := n0_
 have HO279 := n1_
 clear n0_ n1_
 clear ho hb hg hat
 refine hK.out _ _ trivial (fun hHeld => ?_)
 clear hK K
 refine nm (some 9) ?_
 refine one_ (i := 9) (N := some 14) (tb 11 1023) rfl rfl (one_of HT_.out (by kernel_rfl)) (by decide) (fun K hK => ?_)
 refine Kd.R_append_rows_step k26 (w0 := w) w.heap.size (by rfl) (.tmp 9) (.tmp 13) 22 26 (.agg #[(.int .i64 0), (.int .i64 0), (.int .i64 0), (.int .i64 0)]) 32 rfl Tryz.underlying22 info26 rfl (by decide) (by omega) v278 y277 y280 _ _ _ (fun _ => True) (fun _ => False) rfl rfl ?aO ?aR (fun _ _ h => h) (fun _ h => h.elim) ?aF ?aB ?aS ?aL ?_
 (case aR => exact cb HR283)
 (case aB => exact bw)
 (case aF => exact (fun _ _ => trivial))
 (case aO => exact (pr HO279))
 (case aS => exact (below_size bw))
 (case aL => have := LMc9.out; omega)
 intro v285 w16 ho hb hg hat
 rw [← Ny284.out] at ho
 have n0_ := Aside0.mk (hb)
 have n1_ := Aside0.mk (ho)
 clear HB
 clear HO279
 have HB := n0_
 have HO286 := n1_
 clear n0_ n1_
 clear ho hb hg hat
 refine hK.out _ _ trivial (fun hHeld => ?_)
 clear hK K
 refine nm (some 14) ?_
 refine pu 10 (some 4) (tb 11 2047) ?_
 refine done_ (done_of HT_.out (by kernel_rfl)) ?_
 try go_wp2
 go_ret
 exact ⟨_, by first | rfl | (simp [errW_none, errW_some] <;> rfl) | (simp only [← hji6]; first | rfl | (simp [errW_none, errW_some] <;> rfl)) | (simp [*, errW_none, errW_some] <;> rfl), pr HO286, bw⟩
/-! ### spec_HarderPuzzle: function 14 -/
mutual
def spec_HarderPuzzle.j0 : Nat → Bool → Int → List (S26) → Option (Int × (List (S26)) × Bool)
  | 0, _, _, _ => none
  | k + 1, x17, x288000, x288001 => if x17 = true then (some (0, ([] : List (S26)), false)) else ((some (([] : List (S26)) : List (S26))).bind fun y291 => (if y291.length + x288001.length < 4398046511104 then (spec_HarderPuzzle.l0 k (y291 ++ x288001) 0 x288000 x288001) else (none)))
def spec_HarderPuzzle.l0 : Nat → List (S26) → Int → Int → List (S26) → Option (Int × (List (S26)) × Bool)
  | 0, _, _, _, _ => none
  | k + 1, x4, x5, x288000, x288001 => if x5 < (x4.length : Int) then ((spec_pzWithout.f x4 x5).bind fun t297 => ((spec_pzSolved.f k x288000 t297).bind fun t300 => (if t300 = true then (spec_HarderPuzzle.l0 k t297 x5 x288000 x288001) else (spec_HarderPuzzle.l0 k x4 (wrap64 (x5 + 1)) x288000 x288001)))) else (some (x288000, x4, true))
end
def spec_HarderPuzzle.f (k : Nat) (a0_0 : Int) (l0_1 : List (S26)) : Option (Int × (List (S26)) × Bool) := (spec_pzGood.f k a0_0 l0_1).bind fun t289 => (if t289 = true then ((spec_pzSolved.f k a0_0 l0_1).bind fun t290 => (spec_HarderPuzzle.j0 k (!t290) a0_0 l0_1)) else (spec_HarderPuzzle.j0 k true a0_0 l0_1))
theorem spec_HarderPuzzle.mono_l : ∀ k, (∀ y0 y1 y2, LeO (spec_HarderPuzzle.j0 k y0 y1 y2) (spec_HarderPuzzle.j0 (k + 1) y0 y1 y2)) ∧ (∀ y0 y1 y2 y3, LeO (spec_HarderPuzzle.l0 k y0 y1 y2 y3) (spec_HarderPuzzle.l0 (k + 1) y0 y1 y2 y3))
  | 0 => ⟨fun _ _ _ r h => by simp [spec_HarderPuzzle.j0] at h, fun _ _ _ _ r h => by simp [spec_HarderPuzzle.l0] at h⟩
  | k + 1 => by
    obtain ⟨ih0, ih1⟩ := spec_HarderPuzzle.mono_l k
    refine ⟨?q0, ?q1⟩
    case' q0 => (intros; unfold spec_HarderPuzzle.j0)
    case' q1 => (intros; unfold spec_HarderPuzzle.l0)
    all_goals repeat' first
     | (with_reducible exact ih0 _ _ _)
     | (with_reducible exact ih1 _ _ _ _)
     | (with_reducible exact spec_pzGood.mono _ _ _)
     | (with_reducible exact spec_pzSolved.mono _ _ _)
     | (with_reducible exact LeO.refl _)
     | (with_reducible exact LeO.none _)
     | (with_reducible refine LeO.ite ?_ ?_)
     | (with_reducible refine LeO.bind ?_ (fun _ => ?_))
     | exact ih0 _ _ _
     | exact ih1 _ _ _ _
     | exact spec_pzGood.mono _ _ _
     | exact spec_pzSolved.mono _ _ _
     | exact LeO.none _
     | refine LeO.ite ?_ ?_
     | refine LeO.bind ?_ (fun _ => ?_)
theorem spec_HarderPuzzle.mono : ∀ a0 a1 k, LeO (spec_HarderPuzzle.f k a0 a1) (spec_HarderPuzzle.f (k + 1) a0 a1) := by
  intro a0 a1 k
  obtain ⟨ih0, ih1⟩ := spec_HarderPuzzle.mono_l k
  unfold spec_HarderPuzzle.f
  repeat' first
      | (with_reducible exact ih0 _ _ _)
      | (with_reducible exact ih1 _ _ _ _)
      | (with_reducible exact spec_pzGood.mono _ _ _)
      | (with_reducible exact spec_pzSolved.mono _ _ _)
      | (with_reducible exact LeO.refl _)
      | (with_reducible exact LeO.none _)
      | (with_reducible refine LeO.ite ?_ ?_)
      | (with_reducible refine LeO.bind ?_ (fun _ => ?_))
      | exact ih0 _ _ _
      | exact ih1 _ _ _ _
      | exact spec_pzGood.mono _ _ _
      | exact spec_pzSolved.mono _ _ _
      | exact LeO.none _
      | refine LeO.ite ?_ ?_
      | refine LeO.bind ?_ (fun _ => ?_)
set_option maxHeartbeats 8000000 in
set_option maxRecDepth 100000 in
theorem spec_HarderPuzzle.calls (k : Nat) (a0_0 : Int) (A0_1 : Option Addr) (c0_1 : Nat) (l0_1 : List (S26)) (r1 : Int) (r2 : List (S26)) (r3 : Bool) (w : World) (hr0_1 : Kd.C k26 w A0_1 l0_1.length l0_1) (hc0_1 : l0_1.length ≤ c0_1) (h : spec_HarderPuzzle.f k a0_0 l0_1 = some (r1, r2, r3)) :
  Calls Tryz.prog 14 #[.agg #[.int .i64 a0_0, .slice A0_1 l0_1.length c0_1]] w fun e w' => ∃ v1_ : Value, e = .returned (.tuple #[.agg #[.int .i64 r1, v1_], .bool r3]) ∧ Kd.R k26 26 w' w.heap.size (fun _ => True) v1_ r2 ∧ Below w.heap.size w w' := by
 have hu24 := Tryz.underlying24
 have HR0_1 := Aside0.mk hr0_1
 have HC0_1 := Aside0.mk hc0_1
 clear hr0_1 hc0_1
 have HB := Aside0.mk (Below.refl w.heap.size w)
 unfold spec_HarderPuzzle.f at h
 have H := h
 clear h
 have HC2 := Aside0.mk H
 clear H
 go_enter Tryz.func14, Tryz.ntmps14
 go_upto_region 1 with (first | ((with_reducible refine gd 1 ?_); refine bx 1 24 #[.int .i64 a0_0, .slice A0_1 l0_1.length c0_1] ?_; intro gb287 hg w3 hbox hb; have BK287 := hbox; have GW287 := gs hg; have GE287 := gs hg; replace HB := bs hb; clear hb hbox hg) | ((with_reducible refine gd 2 ?_); refine bx 2 24 #[.int .i64 0, .slice none 0 0] ?_; intro gb288 hg w4 hbox hb; have BK288 := hbox; have GW288 := gs hg; have GE288 := gs hg; replace HB := bs hb; have ⟨NB287_288, NB288_287⟩ := nn BK287 hg; replace BK287 := nk BK287 hb; clear hb hbox hg))
 (try simp only [Act.put, List.setIfInBounds_toArray, List.set_cons_zero, List.set_cons_succ])
 go_cut [17] (fun v17 wc => ∃ (kq : Nat) (x17_1 : Bool), v17 = .bool x17_1 ∧ Aside0 (spec_HarderPuzzle.j0 kq x17_1 a0_0 l0_1 = some (r1, r2, r3)) ∧ Aside0 (kq ≤ k) ∧ Aside0 (wc.heap[gb287]? = some (.cells #[.int .i64 a0_0, (.slice A0_1 l0_1.length c0_1)] 24 (0, 0))) ∧ Aside0 (wc.heap[gb288]? = some (.cells #[.int .i64 0, (.slice none 0 0)] 24 (0, 0))) ∧ Aside0 (Below w.heap.size w wc))
 case first =>
  have H := HC2.out
  clear HC2
  obtain ⟨t289, A5, H⟩ := ob H
  (try dsimp only at H)
  by_cases c6 : t289 = true
  ·subst c6
   rw [if_pos rfl] at H
   obtain ⟨t290, A7, H⟩ := ob H
   (try dsimp only at H)
   have H' := Aside0.mk H
   clear H
   have hnb8 := nb NB287_288
   obtain ⟨hcz9_0, hcz9_1, hfz9_0, hfz9_1⟩ := z2 BK287
   go_wp2_with (first | ((with_reducible refine gc 47 ?_); refine gl (some 8) Tryz.func47 #[.agg #[.int .i64 a0_0, .slice A0_1 l0_1.length c0_1]] ?_; (with_reducible refine (spec_pzGood.calls k a0_0 _ _ l0_1 true _ ?_ ?_ A5.out).mono ?_); exact cb HR0_1; exact HC0_1.out; rintro e w10 ⟨rfl, hb⟩; refine ⟨_, rfl, ?_⟩; replace BK287 := nk BK287 hb; replace BK288 := nk BK288 hb; replace HB := bs hb; (try clear hb); obtain ⟨hcz11_0, hcz11_1, hfz11_0, hfz11_1⟩ := z2 BK287) | (go_at_call 48; (with_reducible refine (spec_pzSolved.calls k a0_0 _ _ l0_1 t290 _ ?_ ?_ A7.out).mono ?_); exact cb HR0_1; exact HC0_1.out; rintro e w12 ⟨rfl, hb⟩; replace BK287 := nk BK287 hb; replace BK288 := nk BK288 hb; replace HB := bs hb; (try clear hb)))
   go_meet
   case rel => exact ⟨_, (!t290), (rs), H', ⟨by first | omega | exact Nat.le_refl _⟩, ⟨pk BK287⟩, ⟨pk BK288⟩, ⟨bw⟩⟩
  replace c6 := Bool.eq_false_iff.mpr c6
  subst c6
  rw [if_neg (show ¬ (false = true) by decide)] at H
  have H' := Aside0.mk H
  clear H
  have hnb13 := nb NB287_288
  obtain ⟨hcz14_0, hcz14_1, hfz14_0, hfz14_1⟩ := z2 BK287
  go_wp2_with (first | ((with_reducible refine gc 47 ?_); refine gl (some 8) Tryz.func47 #[.agg #[.int .i64 a0_0, .slice A0_1 l0_1.length c0_1]] ?_; (with_reducible refine (spec_pzGood.calls k a0_0 _ _ l0_1 false _ ?_ ?_ A5.out).mono ?_); exact cb HR0_1; exact HC0_1.out; rintro e w15 ⟨rfl, hb⟩; refine ⟨_, rfl, ?_⟩; replace BK287 := nk BK287 hb; replace BK288 := nk BK288 hb; replace HB := bs hb; (try clear hb)))
  go_meet
  case rel => exact ⟨_, (true), (rs), H', ⟨by first | omega | exact Nat.le_refl _⟩, ⟨pk BK287⟩, ⟨pk BK288⟩, ⟨bw⟩⟩
 case rest =>
  clear HC2
  try clear c1
  try clear p2
  try clear c4
  try clear c6
  try clear c8
  try clear c13
  try clear c14
  try clear hcz11_0
  try clear hcz11_1
  try clear hcz14_0
  try clear hcz14_1
  try clear hcz9_0
  try clear hcz9_1
  try clear hfz11_0
  try clear hfz11_1
  try clear hfz14_0
  try clear hfz14_1
  try clear hfz9_0
  try clear hfz9_1
  obtain ⟨kq, x17_1, rfl, HA, HJ1, BK287, BK288, HB⟩ := hcut
  cases kq with
  | zero => exact absurd HA.out (by simp [spec_HarderPuzzle.j0])
  | succ kj1 =>
   have H := HA.out
   clear HA
   simp only [spec_HarderPuzzle.j0] at H
   by_cases c16 : x17_1 = true
   ·subst c16
    rw [if_pos rfl] at H
    simp only [Option.some.injEq, Prod.mk.injEq] at H
    obtain ⟨rfl, rfl, rfl⟩ := H
    have hnb17 := nb NB288_287
    have hcz18_0 : wc.cell? ⟨gb288, 0, none⟩ = some (.int .i64 0) := ec BK288
    have hcz18_1 : wc.cell? ⟨gb288, 1, none⟩ = some (.slice none 0 0) := ec BK288
    have hfz18_0 := blk_frozen BK288.out 0
    have hfz18_1 := blk_frozen BK288.out 1
    go_wp2
    refine bodyPost_ret (results_ct rfl _ _ gb288 24 #[.int .i64 0, .slice none 0 0] (0, 0) _ rfl (pz BK288) Tryz.underlying24 rfl (by kernel_rfl)) rfl ?_
    exact ⟨_, rs, by first | exact Kd.R_nil _ _ _ _ _ | exact Kd.N_nil _ _ _ _ _ | exact Kd.V_nil _ _ _ _ _ | exact Kd.Q_nil _ _ _ _ _ | exact Kd.S_nil _ _ _ _ _, bw⟩
   replace c16 := Bool.eq_false_iff.mpr c16
   subst c16
   rw [if_neg (show ¬ (false = true) by decide)] at H
   obtain ⟨y291, hy291⟩ : ∃ y_ : List (S26), y_ = (([] : List (S26))) := ⟨_, rfl⟩
   replace H : (if y291.length + l0_1.length < 4398046511104 then (spec_HarderPuzzle.l0 kj1 (y291 ++ l0_1) 0 a0_0 l0_1) else (none)) = some (r1, r2, r3) := by first | (rw [hy291]; with_reducible exact H) | (have H2_ := (Option.bind_some _ _).symm.trans H; rw [hy291]; with_reducible exact H2_) | (have H2_ := (Option.bind_some _ _).symm.trans H; with_reducible exact H2_) | with_reducible exact H | (rw [hy291]; exact H) | exact H
   have Ny291 := Aside0.mk hy291
   clear hy291
   obtain ⟨c19, H⟩ := oi H
   have LMc19 := Aside0.mk c19
   clear c19
   obtain ⟨y294, hy294⟩ : ∃ y_ : List (S26), y_ = (y291 ++ l0_1) := ⟨_, rfl⟩
   replace H : (spec_HarderPuzzle.l0 kj1 y294 0 a0_0 l0_1) = some (r1, r2, r3) := by first | (rw [hy294]; with_reducible exact H) | (have H2_ := (Option.bind_some _ _).symm.trans H; rw [hy294]; with_reducible exact H2_) | (have H2_ := (Option.bind_some _ _).symm.trans H; with_reducible exact H2_) | with_reducible exact H | (rw [hy294]; exact H) | exact H
   have Ny294 := Aside0.mk hy294
   clear hy294
   have H' := Aside0.mk H
   clear H
   go_wp2_with (first | ((with_reducible refine gd 19 ?_); refine Kd.R_lit k26 _ 26 ?hg (N := 19) ?hd (xs := ([] : List (S26))) (inner := []) (ok := fun _ => True) (okp := fun _ => True) ?hr ?hp (fun _ hk => hk) trivial (Below.refl _ _) (Nat.le_refl _) (by simp) ?_; (case hd => rfl); (case hg => rfl); (case hr => first | (go_simp; done) | (go_simp; rfl)); (case hp => exact (Reps.none _ _)); intro v292 w20 ho21 hb hg_ hnew_; clear hg_ hnew_; (first | rw [← Ny291.out] at ho21 | (simp only [Int.reduceToNat] at ho21; rw [← Ny291.out] at ho21)); have HO293 := Aside0.mk (Kd.R_lower ho21 (below_size bw)); replace BK287 := nk BK287 hb; replace BK288 := nk BK288 hb; replace HB := bs hb; clear hb ho21; have hnb22 := nb NB287_288; obtain ⟨hcz23_0, hcz23_1, hfz23_0, hfz23_1⟩ := z2 BK287) | ((with_reducible refine gate_builtin (b := .append) (xs := #[.tmp 19, .tmp 21]) rfl ?_); at_builtin; refine Kd.R_append_rows k26 (w0 := w) w.heap.size rfl (.tmp 19) (.tmp 21) 22 26 (.agg #[(.int .i64 0), (.int .i64 0), (.int .i64 0), (.int .i64 0)]) 32 rfl Tryz.underlying22 info26 rfl (by decide) (by omega) v292 y291 l0_1 _ _ _ (fun _ => True) (fun _ => False) rfl rfl ?aO ?aR (fun _ _ h => h) (fun _ h => h.elim) ?aF ?aB ?aS ?aL ?_; (case aR => exact cb HR0_1); (case aB => exact bw); (case aF => exact (fun _ _ => trivial)); (case aO => exact (pr HO293)); (case aS => exact (below_size bw)); (case aL => have := LMc19.out; omega); intro v295 w24 ho hb hg hat; rw [← Ny294.out] at ho; have n0_ := Aside0.mk (blk_grown (pk BK287) hg (Kd.R_ne HO293.out BK287.out (by decide))); have n1_ := Aside0.mk (blk_grown (pk BK288) hg (Kd.R_ne HO293.out BK288.out (by decide))); have n2_ := Aside0.mk (hb); have n3_ := Aside0.mk (ho); clear BK287; clear BK288; clear HB; clear HO293; have BK287 := n0_; have BK288 := n1_; have HB := n2_; have HO296 := n3_; clear n0_ n1_ n2_ n3_; clear ho hb hg hat))
   go_loopg [4, 5] kj1 (fun kq v4 v5 w' => ∃ (x4_2 : List (S26)) (x5_2 : Int), v5 = .int .i64 x5_2 ∧ Aside0 (spec_HarderPuzzle.l0 kq x4_2 x5_2 a0_0 l0_1 = some (r1, r2, r3)) ∧ Aside0 (kq ≤ kj1) ∧ Aside0 (Kd.R k26 26 w' w.heap.size (fun _ => True) v4 x4_2) ∧ Aside0 (w'.heap[gb287]? = some (.cells #[.int .i64 a0_0, (.slice A0_1 l0_1.length c0_1)] 24 (0, 0))) ∧ Aside0 (w'.heap[gb288]? = some (.cells #[.int .i64 0, (.slice none 0 0)] 24 (0, 0))) ∧ Aside0 (Below w.heap.size w w'))
   case atStart => exact ⟨(y294), (0), (rs), H', ⟨Nat.le_refl _⟩, ⟨pr HO296⟩, ⟨pk BK287⟩, ⟨pk BK288⟩, ⟨bw⟩⟩
   case round =>
    clear H'
    try clear c1
    try clear c2
    try clear p2
    try clear c4
    try clear c6
    try clear c8
    try clear c13
    try clear c14
    try clear c16
    try clear c17
    try clear c19
    try clear c22
    try clear hcz11_0
    try clear hcz11_1
    try clear hcz14_0
    try clear hcz14_1
    try clear hcz18_0
    try clear hcz18_1
    try clear hcz23_0
    try clear hcz23_1
    try clear hcz9_0
    try clear hcz9_1
    try clear hfz11_0
    try clear hfz11_1
    try clear hfz14_0
    try clear hfz14_1
    try clear hfz18_0
    try clear hfz18_1
    try clear hfz23_0
    try clear hfz23_1
    try clear hfz9_0
    try clear hfz9_1
    try clear p2
    obtain ⟨x4_2, x5_2, rfl, HA, HK2, HO_4, BK287, BK288, HB⟩ := hrel
    cases gk with
    | zero => exact absurd HA.out (by simp [spec_HarderPuzzle.l0])
    | succ k2 =>
     have H := HA.out
     clear HA
     simp only [spec_HarderPuzzle.l0] at H
     by_cases c25 : x5_2 < (x4_2.length : Int)
     ·rw [if_pos c25] at H
      have c25b0 := decide_eq_true c25
      clear c25
      obtain ⟨t297, A26, H⟩ := ob H
      (try dsimp only at H)
      obtain ⟨t300, A27, H⟩ := ob H
      (try dsimp only at H)
      by_cases c28 : t300 = true
      ·subst c28
       rw [if_pos rfl] at H
       have H' := Aside0.mk H
       clear H
       obtain ⟨Ao29, co29, eo29⟩ := Kd.R_slice HO_4.out
       subst eo29
       go_wp2_with (first | ((with_reducible refine gc 49 ?_); refine gl (some 29) Tryz.func49 #[.slice Ao29 x4_2.length co29, .int .i64 x5_2] ?_; (with_reducible refine (spec_pzWithout.calls _ _ x4_2 x5_2 t297 _ ?_ ?_ A26.out).mono ?_); exact rr HO_4; exact rn HO_4; rintro e w30 ⟨v298, rfl, ho0, hb⟩; refine ⟨_, rfl, ?_⟩; have HO299 := Aside0.mk (Kd.R_lower (Kd.R_new' ho0 (Kd.R_lt (pr HO_4))) (below_size bw)); replace HO_4 := re HO_4 ho0 hb; replace BK287 := nk BK287 hb; replace BK288 := nk BK288 hb; replace HB := bs hb; (try clear hb); (try clear ho0); have hnb31 := nb NB287_288; have hz32 := z2 BK287; obtain ⟨Ao33, co33, eo33⟩ := Kd.R_slice HO299.out; subst eo33) | ((with_reducible refine gc 48 ?_); refine gl (some 33) Tryz.func48 #[.int .i64 a0_0, .slice Ao33 t297.length co33] ?_; (with_reducible refine (spec_pzSolved.calls k2 a0_0 _ _ t297 true _ ?_ ?_ A27.out).mono ?_); exact rr HO299; exact rn HO299; rintro e w34 ⟨rfl, hb⟩; refine ⟨_, rfl, ?_⟩; replace HO_4 := rl HO_4 hb; replace HO299 := rl HO299 hb; replace BK287 := nk BK287 hb; replace BK288 := nk BK288 hb; replace HB := bs hb; (try clear hb)))
       go_roundg k2
       case measure => have := HJ1.out; have := HK2.out; omega
       case rel => exact ⟨(t297), (x5_2), (rs), H', ⟨by have := HJ1.out; have := HK2.out; omega⟩, ⟨by (with_reducible repeat (first | apply Kd.R_alloc | apply Kd.R_drewN | apply Kd.R_drew)); exact Kd.R_mono HO299.out (fun _ hk => trivial)⟩, ⟨pk BK287⟩, ⟨pk BK288⟩, ⟨bw⟩⟩
      replace c28 := Bool.eq_false_iff.mpr c28
      subst c28
      rw [if_neg (show ¬ (false = true) by decide)] at H
      have H' := Aside0.mk H
      clear H
      obtain ⟨Ao35, co35, eo35⟩ := Kd.R_slice HO_4.out
      subst eo35
      go_wp2_with (first | ((with_reducible refine gc 49 ?_); refine gl (some 29) Tryz.func49 #[.slice Ao35 x4_2.length co35, .int .i64 x5_2] ?_; (with_reducible refine (spec_pzWithout.calls _ _ x4_2 x5_2 t297 _ ?_ ?_ A26.out).mono ?_); exact rr HO_4; exact rn HO_4; rintro e w36 ⟨v298, rfl, ho0, hb⟩; refine ⟨_, rfl, ?_⟩; have HO299 := Aside0.mk (Kd.R_lower (Kd.R_new' ho0 (Kd.R_lt (pr HO_4))) (below_size bw)); replace HO_4 := re HO_4 ho0 hb; replace BK287 := nk BK287 hb; replace BK288 := nk BK288 hb; replace HB := bs hb; (try clear hb); (try clear ho0); have hnb37 := nb NB287_288; have hz38 := z2 BK287; obtain ⟨Ao39, co39, eo39⟩ := Kd.R_slice HO299.out; subst eo39) | ((with_reducible refine gc 48 ?_); refine gl (some 33) Tryz.func48 #[.int .i64 a0_0, .slice Ao39 t297.length co39] ?_; (with_reducible refine (spec_pzSolved.calls k2 a0_0 _ _ t297 false _ ?_ ?_ A27.out).mono ?_); exact rr HO299; exact rn HO299; rintro e w40 ⟨rfl, hb⟩; refine ⟨_, rfl, ?_⟩; replace HO_4 := rl HO_4 hb; replace HO299 := rl HO299 hb; replace BK287 := nk BK287 hb; replace BK288 := nk BK288 hb; replace HB := bs hb; (try clear hb)))
      go_roundg k2
      case measure => have := HJ1.out; have := HK2.out; omega
      case rel => exact ⟨(x4_2), (wrap64 (x5_2 + 1)), (rs), H', ⟨by have := HJ1.out; have := HK2.out; omega⟩, ⟨by (with_reducible repeat (first | apply Kd.R_alloc | apply Kd.R_drewN | apply Kd.R_drew)); exact Kd.R_mono HO_4.out (fun _ hk => trivial)⟩, ⟨pk BK287⟩, ⟨pk BK288⟩, ⟨bw⟩⟩
     rw [if_neg c25] at H
     have c25b0 := decide_eq_false c25
     clear c25
     simp only [Option.some.injEq, Prod.mk.injEq] at H
     obtain ⟨rfl, rfl, rfl⟩ := H
     obtain ⟨Ao41, co41, eo41⟩ := Kd.R_slice HO_4.out
     subst eo41
     have hnb42 := nb NB287_288
     have hcz43_0 : wr.cell? ⟨gb287, 0, none⟩ = some (.int .i64 a0_0) := ec BK287
     have hcz43_1 : wr.cell? ⟨gb287, 1, none⟩ = some (.slice A0_1 l0_1.length c0_1) := ec BK287
     have hfz43_0 := blk_frozen BK287.out 0
     have hfz43_1 := blk_frozen BK287.out 1
     have hcz44_0 : wr.cell? ⟨gb288, 0, none⟩ = some (.int .i64 0) := ec BK288
     have hcz44_1 : wr.cell? ⟨gb288, 1, none⟩ = some (.slice none 0 0) := ec BK288
     have hfz44_0 := blk_frozen BK288.out 0
     have hfz44_1 := blk_frozen BK288.out 1
     go_wp2
     refine bodyPost_ret (results_ct rfl _ _ gb288 24 #[.int .i64 a0_0, .slice Ao41 x4_2.length co41] (0, 0) _ rfl (pz BK288) Tryz.underlying24 rfl (by kernel_rfl)) rfl ?_
     exact ⟨_, rs, by (with_reducible repeat (first | apply Kd.R_alloc | apply Kd.R_drewN | apply Kd.R_drew)); exact Kd.R_mono (Kd.R_far (p := ⟨gb288, 1, none⟩) (Kd.R_far (p := ⟨gb288, 0, none⟩) (Kd.R_types HO_4.out BK288.out (by decide)) (fun _ hk => hk.2) (.int .i64 a0_0)) (fun _ hk => hk.2) (.slice Ao41 x4_2.length co41)) (fun _ hk => trivial), bw⟩
end Go.Proofs.YtonhhfhlhlifcaaGreatDoor.PFnRowsHiddenOfAll
