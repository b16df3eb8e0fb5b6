-- Laid by xprint, a program of this session that runs over the kit's print.
import Derived.Test.YteoklfgmdcofcaaDoorPFnOrdersTurnx0
import Derived.Test.YteoklfgmdcofcaaDoorPFnOrdersTurnx4
namespace Go.Proofs.YteoklfgmdcofcaaDoor.PFnOrdersTurn
open Go.RowKit Go.Proofs.YteoklfgmdcofcaaDoorW.PrintWords Go.Proofs.YteoklfgmdcofcaaDoorW.PrintLast Go.Proofs.YteoklfgmdcofcaaDoorW.PrintMore Go.Proofs.YteoklfgmdcofcaaDoor.Sq
attribute [local go_sem] max2_int min2_int max_two min_two max_three min_three max_four min_four   -- for this text's walks alone
set_option linter.unusedVariables false
set_option linter.unusedSimpArgs false

/-! ### impl_turnAll: function 40 -/
def impl_turnAll.f (a0 : ByteArray) (a1 : Int) (a2 : Int) : Option (ByteArray) := if 0 ≤ a1 then (if a1 ≤ (a0.size : Int) then (if a1 ≤ (wrap64 (a2 + 1)) then (if (wrap64 (a2 + 1)) ≤ (a0.size : Int) then ((impl_turned.f (a0.extract (a1 : Int).toNat ((wrap64 (a2 + 1)) : Int).toNat)).bind fun t274 => (if (a0.extract 0 (a1 : Int).toNat).size + t274.size ≤ 9223372036854775807 then (if 0 ≤ (wrap64 (a2 + 1)) then (if ((a0.extract 0 (a1 : Int).toNat) ++ t274).size + (a0.extract ((wrap64 (a2 + 1)) : Int).toNat a0.size).size ≤ 9223372036854775807 then (some (((a0.extract 0 (a1 : Int).toNat) ++ t274) ++ (a0.extract ((wrap64 (a2 + 1)) : Int).toNat a0.size))) else (none)) else (none)) else (none))) else (none)) else (none)) else (none)) else (none)
def impl_turnAll.T1 : Bool × List (List Nat × List Nat) := (true, [([], []), ([], []), ([0, 1], [0, 1]), ([], []), ([], []), ([], []), ([5], [5]), ([3, 4, 6], [3, 4, 6]), ([7], [7]), ([2, 8], [2, 8]), ([], []), ([], []), ([11], [11]), ([10, 12], [10, 12]), ([9, 13], [9, 13]), ([14, 8, 0, 1, 2, 3, 4, 5, 6, 7, 8, 9, 10, 11, 12, 13, 14], [14])])
def impl_turnAll.B1 : List Nat := [0, 0, 3, 0, 0, 0, 32, 120, 248, 511, 0, 0, 2048, 7168, 16383, 32767]
theorem impl_turnAll.tab1 : rtab .any (opsOf Tryd.f40 1) = impl_turnAll.T1 := by kernel_rfl
theorem impl_turnAll.bits1 : waitsOk impl_turnAll.T1.2 impl_turnAll.B1 = true := by kernel_rfl
set_option maxHeartbeats 8000000 in
set_option maxRecDepth 100000 in
theorem impl_turnAll.calls (a0 : ByteArray) (a1 : Int) (a2 : Int) (r : ByteArray) (w : World) (hm : Dr.Tab w) (h : impl_turnAll.f a0 a1 a2 = some r) :
  Calls Tryd.prog 40 #[.string a0, .int .i64 a1, .int .i64 a2] w fun e w' => e = .returned (.string r) ∧ Below w.heap.size w w' := by
 have HB := Aside0.mk (Below.refl w.heap.size w)
 have HMM := Aside0.mk hm
 clear hm
 unfold impl_turnAll.f at h
 have H := h
 clear h
 by_cases c4 : 0 ≤ a1
 ·rw [if_pos c4] at H
  have c4b0 := eq_true c4
  have c4b1 : decide (0 ≤ a1) = true := decide_eq_true c4
  clear c4
  by_cases c5 : a1 ≤ (a0.size : Int)
  ·rw [if_pos c5] at H
   have c5b0 := eq_true c5
   have c5b1 : decide (a1 ≤ (a0.size : Int)) = true := decide_eq_true c5
   clear c5
   have c6b0 := eq_true (of_decide_eq_true asm : 0 ≤ a1)
   by_cases c7 : a1 ≤ (wrap64 (a2 + 1))
   ·rw [if_pos c7] at H
    have c7b0 := eq_true c7
    have c7b1 : decide (a1 ≤ (wrap64 (a2 + 1))) = true := decide_eq_true c7
    by_cases c8 : (wrap64 (a2 + 1)) ≤ (a0.size : Int)
    ·rw [if_pos c8] at H
     have c8b0 := eq_true c8
     have c8b1 : decide ((wrap64 (a2 + 1)) ≤ (a0.size : Int)) = true := decide_eq_true c8
     replace H := Option.bind_eq_some_iff.mp H
     obtain ⟨t274, A90, H⟩ := H
     (try dsimp only at H)
     have A9 := Aside0.mk A90
     clear A90
     by_cases c10 : (a0.extract 0 (a1 : Int).toNat).size + t274.size ≤ 9223372036854775807
     ·rw [if_pos c10] at H
      have c10b0 := eq_true c10
      have c10b1 : decide ((a0.extract 0 (a1 : Int).toNat).size + t274.size ≤ 9223372036854775807) = true := decide_eq_true c10
      try have c10b2 : (9223372036854775807 < (a0.extract 0 (a1 : Int).toNat).size + t274.size) = False := eq_false (Nat.not_lt.2 c10)
      try have c10b3 : (9223372036854775807 < (a1 : Int).toNat + t274.size) = False := eq_false (by have h9_ := c10; clear H; simp only [ByteArray.size_append, ByteArray.size_extract] at h9_; simp only [eq_iff_iff, iff_true, iff_false] at *; have z9_ : (⟨#[]⟩ : ByteArray).size = 0 := rfl; omega)
      obtain ⟨ji11, hji11⟩ : ∃ j_ : Int, (wrap64 (a2 + 1)) = j_ := ⟨_, rfl⟩
      replace H : (if 0 ≤ (ji11) then (if ((a0.extract 0 (a1 : Int).toNat) ++ t274).size + (a0.extract ((ji11) : Int).toNat a0.size).size ≤ 9223372036854775807 then (some (((a0.extract 0 (a1 : Int).toNat) ++ t274) ++ (a0.extract ((ji11) : Int).toNat a0.size))) else (none)) else (none)) = some r := by first | (rw [hji11] at H; exact H) | (simp only [hji11] at H ⊢; exact H)
      (try rw [hji11] at c7b0)
      (try rw [hji11] at c7b1)
      (try rw [hji11] at c7)
      (try rw [hji11] at c8b0)
      (try rw [hji11] at c8b1)
      (try rw [hji11] at c8)
      (try rw [hji11] at A9)
      have hji11w : (IntKind.i64.wrap (a2 + 1)) = ji11 := (i64_w _).trans hji11
      by_cases c12 : 0 ≤ (ji11)
      ·rw [if_pos c12] at H
       have c12b0 := eq_true c12
       have c12b1 : decide (0 ≤ (ji11)) = true := decide_eq_true c12
       clear c12
       have c13b0 := eq_true (of_decide_eq_true asm : (ji11) ≤ (a0.size : Int))
       by_cases c14 : ((a0.extract 0 (a1 : Int).toNat) ++ t274).size + (a0.extract ((ji11) : Int).toNat a0.size).size ≤ 9223372036854775807
       ·rw [if_pos c14] at H
        have c14b0 := eq_true c14
        have c14b1 : decide (((a0.extract 0 (a1 : Int).toNat) ++ t274).size + (a0.extract ((ji11) : Int).toNat a0.size).size ≤ 9223372036854775807) = true := decide_eq_true c14
        try have c14b2 : (9223372036854775807 < ((a0.extract 0 (a1 : Int).toNat) ++ t274).size + (a0.extract ((ji11) : Int).toNat a0.size).size) = False := eq_false (Nat.not_lt.2 c14)
        try have c14b3 : (9223372036854775807 < (a1 : Int).toNat + t274.size + (a0.size - ((ji11) : Int).toNat)) = False := eq_false (by have h9_ := c14; clear H; simp only [ByteArray.size_append, ByteArray.size_extract] at h9_; simp only [eq_iff_iff, iff_true, iff_false] at *; have z9_ : (⟨#[]⟩ : ByteArray).size = 0 := rfl; omega)
        obtain rfl := Option.some.inj H
        go_enter Tryd.func40, Tryd.ntmps40
        try go_wp2
        replace HB := Aside0.mk (below_drew1 HB.out)
        refine start_ (n := 16) (S := fun w' => True) (ds := []) (tb 16 0) (by kernel_rfl) rfl rfl trivial (fun hHeld => ?_); refine with_tabW impl_turnAll.tab1 impl_turnAll.bits1 (fun HT_ HW_ => ?_)
        generalize w.drew = w15 at HB hHeld ⊢
        refine pu 0 (some 7) (tb 16 1) ?_
        refine pu 1 (some 8) (tb 16 3) ?_
        refine pu 2 (some 9) (tb 16 7) ?_
        refine pu 3 (some 10) (tb 16 15) ?_
        refine pu 4 (some 11) (tb 16 31) ?_
        refine pu 5 (some 12) (tb 16 63) ?_
        refine pu 6 (some 13) (tb 16 127) ?_
        refine pu 7 (some 14) (tb 16 255) ?_
        refine pu 10 (some 17) (tb 16 1279) ?_
        refine pu 11 (some 18) (tb 16 3327) ?_
        refine pu 12 (some 19) (tb 16 7423) ?_
        refine pu 13 (some 20) (tb 16 15615) ?_
        refine one_ (i := 8) (N := some 15) (tb 16 15871) rfl rfl (one_of HT_.out (by kernel_rfl)) (by decide) (fun K hK => ?_)
        refine goes_ Tryd.func55 (by kernel_rfl) rfl #[.string (a0.extract (a1 : Int).toNat ((ji11) : Int).toNat)] (by rfl) rfl rfl (by (try simp only [List.map_toArray, List.map_cons, List.map_nil]); first | done | (simp only [hji11]; rfl) | rfl | (simp only [List.length_drop, List.length_take]; rfl)) ?_
        with_reducible refine (impl_turned.calls (a0.extract (a1 : Int).toNat ((ji11) : Int).toNat) t274 _ ?side1 A9.out).mono ?_
        (case side1 => exact Dr.mm HMM)
        rintro e w16 ⟨rfl, hb⟩
        refine ⟨_, rfl, ?_⟩
        replace HB := bs hb
        (try clear hb)
        refine hK.out _ _ trivial (fun hHeld => ?_)
        clear hK K
        refine nm (some 15) ?_
        refine pu 9 (some 16) (tb 16 16383) ?_
        refine pu 14 (some 21) (tb 16 32767) ?_
        refine pu 15 (some 6) (tb 16 65535) ?_
        refine done_ (done_of HT_.out (by kernel_rfl)) ?_
        try go_wp2
        go_ret
        exact ⟨by first | rfl | (simp [errW_none, errW_some] <;> rfl) | (simp only [← hji11]; first | rfl | (simp [errW_none, errW_some] <;> rfl)) | (simp [*, errW_none, errW_some] <;> rfl), bw⟩
       ·rw [if_neg c14] at H
        exact absurd H (by simp)
      ·rw [if_neg c12] at H
       exact absurd H (by simp)
     ·rw [if_neg c10] at H
      exact absurd H (by simp)
    ·rw [if_neg c8] at H
     exact absurd H (by simp)
   ·rw [if_neg c7] at H
    exact absurd H (by simp)
  ·rw [if_neg c5] at H
   exact absurd H (by simp)
 ·rw [if_neg c4] at H
  exact absurd H (by simp)

end Go.Proofs.YteoklfgmdcofcaaDoor.PFnOrdersTurn
