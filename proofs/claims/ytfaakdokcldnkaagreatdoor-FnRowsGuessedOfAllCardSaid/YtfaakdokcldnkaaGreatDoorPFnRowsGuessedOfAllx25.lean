-- Laid by xprint, a program of this session that runs over the kit's print.
import Derived.Test.YtfaakdokcldnkaaGreatDoorPFnRowsGuessedOfAllx27
import Derived.Test.YtfaakdokcldnkaaGreatDoorPFnRowsGuessedOfAllx24
namespace Go.Proofs.YtfaakdokcldnkaaGreatDoor.PFnRowsGuessedOfAll
open Go.RowKit Go.Proofs.YtfaakdokcldnkaaGreatDoorW.PrintWords Go.Proofs.YtfaakdokcldnkaaGreatDoorW.PrintLast Go.Proofs.YtfaakdokcldnkaaGreatDoorW.PrintMore Go.Proofs.YtfaakdokcldnkaaGreatDoor.Sq
attribute [local go_sem] max2_int min2_int max_two min_two max_three min_three max_four min_four   -- for this text's walks alone
set_option linter.unusedVariables false
set_option linter.unusedSimpArgs false

/-! ### laws_FnRowsGuessedOfAll: its contract -/
set_option maxHeartbeats 80000000 in
set_option maxRecDepth 100000 in
theorem laws_FnRowsGuessedOfAll.r1
 {k : Nat}
 {a0_0 : Int}
 {A0_1 : Option Addr}
 {c0_1 : Nat}
 {l0_1 : List S42}
 {a1 : ByteArray}
 {r : Bool}
 {w : World}
 (HR0_1 : Aside0 (Kd.C k42 w A0_1 (List.length l0_1) l0_1))
 (HC0_1 : Aside0 (List.length l0_1 ≤ c0_1))
 (HRT : Aside0 (r = true))
 (HMM : Aside0 (Dr.Tab w))
 {t489 : List ByteArray}
 {t492 : Bool}
 (A5 : Aside0 (impl_Solutions.f k a0_0 l0_1 = some (t489, t492)))
 {t493 : List ByteArray}
 {t496 : Bool}
 {t497 : Int}
 {t498 : Bool}
 {t499 : Int}
 {t500 : Bool}
 {t501 : ByteArray}
 {t502 : Bool}
 (A9 : Aside0 (impl_FirstSolution.f k a0_0 l0_1 = some (t501, t502)))
 {t503 : ByteArray}
 {t504 : Bool}
 {t505 : ByteArray}
 {t506 : Bool}
 {t507 : ByteArray}
 {t508 t509 t510 : Bool}
 (A13 : Aside0 (impl_IsSolved.f k a0_0 l0_1 = some (t509, t510)))
 {t511 t512 : Bool}
 {t513 : List Int}
 {t516 : Bool}
 {t517 : List Int}
 {t520 : Bool}
 {t521 : List Int}
 {t524 : Bool}
 {t525 : List Int}
 {t528 : Bool}
 {t529 : Int}
 {t530 : Bool}
 {t531 : Int}
 {t532 : Bool}
 {t533 : ByteArray}
 {t534 : Bool}
 {t535 : ByteArray}
 {t536 : Bool}
 {gb488 : Nat}
 (w24 w26 : World)
 {v490 : Value}
 (w28 : World)
 {v494 : Value}
 (w30 w32 w34 w36 w38 w40 w42 w44 w46 : World)
 {v514 : Value}
 (w48 : World)
 {v518 : Value}
 (w50 : World)
 {v522 : Value}
 (w52 : World)
 {v526 : Value}
 (w54 w56 w58 : World)
 {w60 : World}
 (HO491 : Aside0 (Kd.R Kd.string 9 w60 (Array.size w.heap) (fun k => True ∧ some k ≠ Value.ownBlock v494) v490 t489))
 (HO495 : Aside0 (Kd.R Kd.string 9 w60 (Array.size w.heap) (fun k => True ∧ some k ≠ Value.ownBlock v490) v494 t493))
 (HO515 : Aside0 (Kd.R (Kd.int .i64) 3 w60 (Array.size w.heap) (fun k => ((True ∧ some k ≠ Value.ownBlock v518) ∧ some k ≠ Value.ownBlock v522) ∧ some k ≠ Value.ownBlock v526) v514 t513))
 (HO519 : Aside0 (Kd.R (Kd.int .i64) 3 w60 (Array.size w.heap) (fun k => ((True ∧ some k ≠ Value.ownBlock v514) ∧ some k ≠ Value.ownBlock v522) ∧ some k ≠ Value.ownBlock v526) v518 t517))
 (HO523 : Aside0 (Kd.R (Kd.int .i64) 3 w60 (Array.size w.heap) (fun k => ((True ∧ some k ≠ Value.ownBlock v514) ∧ some k ≠ Value.ownBlock v518) ∧ some k ≠ Value.ownBlock v526) v522 t521))
 (HO527 : Aside0 (Kd.R (Kd.int .i64) 3 w60 (Array.size w.heap) (fun k => ((True ∧ some k ≠ Value.ownBlock v514) ∧ some k ≠ Value.ownBlock v518) ∧ some k ≠ Value.ownBlock v522) v526 t525))
 {x1_ : Act → World → Prop}
 (x2_ : ∀ (a : Act) (w_1 : World), Code.wp Tryz.prog (cdd Tryz.f3 [1, 1, 1, 1, 1, 1, 1, 1, 1, 1, 1, 1, 1, 1, 1, 1, 1, 1, 1, 1, 1]) (bodyPost Tryz.prog Tryz.f3 fun e w' => e = Ending.returned (.bool r) ∧ Below (Array.size w.heap) w w') a w_1 → x1_ a w_1)
 {wc : World}
 {u98 u103 u107 u108 u112 u113 u118 u123 u128 u133 u138 u140 u141 u142 u143 u144 u145 u146 u147 u148 u149 u150 u151 u152 u153 u154 u155 u156 u157 u158 u159 u160 u161 u162 u163 u164 u165 u166 u167 u168 u169 u170 u171 u172 u173 u174 u175 u176 u177 u178 u179 u180 u181 u182 u183 u184 u185 u186 u187 u188 u189 u190 u191 u192 u193 u194 u195 u196 u197 u198 u199 u200 u201 u202 u203 u204 u205 u206 u207 u208 u209 u210 u211 u212 u213 u214 u215 u216 u217 u218 u219 u220 u221 u222 u223 u224 u225 u226 u227 u228 u229 u230 u231 u232 u233 u234 u235 u236 u237 u238 u239 u240 u241 u242 u243 u244 u245 u246 u247 u248 u249 u250 u251 u252 u253 u254 u255 u256 u257 u258 u259 u260 u261 u262 u263 u264 u265 u266 u267 u268 u269 u270 u271 u272 u273 u274 u275 u276 u277 u278 u279 u280 u281 u282 u283 u284 u285 u286 u287 u288 u289 u290 u291 u292 u293 u294 u295 u296 u297 u298 u299 u300 u301 u302 u303 u304 u305 u306 : Value}
 {kq : Nat}
 {x307_22 : Bool}
 (HA : Aside0 (j0 kq a1 t489 t492 t497 t501 t502 t505 t509 t513 t521 t529 t533 x307_22 a0_0 l0_1 = some r))
 (HJ22 : Aside0 (kq ≤ k))
 (HO_5 : Aside0 (Kd.R Kd.string 9 wc (Array.size w.heap) (fun x => True) v490 t489))
 (HO_25 : Aside0 (Kd.R (Kd.int .i64) 3 wc (Array.size w.heap) (fun k_ => some k_ ≠ Value.ownBlock v522) v514 t513))
 (HO_29 : Aside0 (Kd.R (Kd.int .i64) 3 wc (Array.size w.heap) (fun k_ => some k_ ≠ Value.ownBlock v514) v522 t521))
 (BK488 : Aside0 (wc.heap[gb488]? = some (.cells #[.int .i64 a0_0, .slice A0_1 (List.length l0_1) c0_1] 24)))
 (HB : Aside0 (Below (Array.size w.heap) w wc)) :
 Code.wp Tryz.prog (cdd Tryz.f3 [1, 1, 1, 1, 1, 1, 1, 1, 1, 1, 1, 1, 1, 1, 1, 1, 1, 1, 1, 1, 0, 1]) (Exit.then x1_ (bodyPost Tryz.prog Tryz.f3 fun e w' => e = Ending.returned (.bool r) ∧ Below (Array.size w.heap) w w')) { tmps := #[.agg #[.int .i64 a0_0, .slice A0_1 (List.length l0_1) c0_1], .string a1, .pointer (some { block := gb488, off := 0 }), undef, .bool false, v490, .bool t492, v494, .bool t496, .int .i64 t497, .bool t498, .int .i64 t499, .bool t500, .string t501, .bool t502, .string t503, .bool t504, .string t505, .bool t506, .string t507, .bool t508, .bool t509, .bool t510, .bool t511, .bool t512, v514, .bool t516, v518, .bool t520, v522, .bool t524, v526, .bool t528, .int .i64 t529, .bool t530, .int .i64 t531, .bool t532, .string t533, .bool t534, .string t535, .bool t536, undef, undef, undef, undef, undef, undef, undef, undef, undef, undef, undef, undef, undef, undef, undef, undef, undef, undef, undef, undef, .string a1, .int .i64 ↑(ByteArray.size a1), .bool false, Value.tuple #[v490, .bool t492], .agg #[.int .i64 a0_0, .slice A0_1 (List.length l0_1) c0_1], Value.tuple #[v490, .bool t492], v490, .bool t492, Value.tuple #[v494, .bool t496], .agg #[.int .i64 a0_0, .slice A0_1 (List.length l0_1) c0_1], Value.tuple #[v494, .bool t496], v494, .bool t496, Value.tuple #[.int .i64 t497, .bool t498], .agg #[.int .i64 a0_0, .slice A0_1 (List.length l0_1) c0_1], Value.tuple #[.int .i64 t497, .bool t498], .int .i64 t497, .bool t498, Value.tuple #[.int .i64 t499, .bool t500], .agg #[.int .i64 a0_0, .slice A0_1 (List.length l0_1) c0_1], Value.tuple #[.int .i64 t499, .bool t500], .int .i64 t499, .bool t500, Value.tuple #[.string t501, .bool t502], .agg #[.int .i64 a0_0, .slice A0_1 (List.length l0_1) c0_1], Value.tuple #[.string t501, .bool t502], .string t501, .bool t502, Value.tuple #[.string t503, .bool t504], .agg #[.int .i64 a0_0, .slice A0_1 (List.length l0_1) c0_1], Value.tuple #[.string t503, .bool t504], .string t503, .bool t504, Value.tuple #[.string t505, .bool t506], .agg #[.int .i64 a0_0, .slice A0_1 (List.length l0_1) c0_1], Value.tuple #[.string t505, .bool t506], .string t505, u98, Value.tuple #[.string t507, .bool t508], .agg #[.int .i64 a0_0, .slice A0_1 (List.length l0_1) c0_1], Value.tuple #[.string t507, .bool t508], .string t507, u103, Value.tuple #[.bool t509, .bool t510], .agg #[.int .i64 a0_0, .slice A0_1 (List.length l0_1) c0_1], Value.tuple #[.bool t509, .bool t510], u107, u108, Value.tuple #[.bool t511, .bool t512], .agg #[.int .i64 a0_0, .slice A0_1 (List.length l0_1) c0_1], Value.tuple #[.bool t511, .bool t512], u112, u113, Value.tuple #[v514, .bool t516], .agg #[.int .i64 a0_0, .slice A0_1 (List.length l0_1) c0_1], Value.tuple #[v514, .bool t516], v514, u118, Value.tuple #[v518, .bool t520], .agg #[.int .i64 a0_0, .slice A0_1 (List.length l0_1) c0_1], Value.tuple #[v518, .bool t520], v518, u123, Value.tuple #[v522, .bool t524], .agg #[.int .i64 a0_0, .slice A0_1 (List.length l0_1) c0_1], Value.tuple #[v522, .bool t524], v522, u128, Value.tuple #[v526, .bool t528], .agg #[.int .i64 a0_0, .slice A0_1 (List.length l0_1) c0_1], Value.tuple #[v526, .bool t528], v526, u133, Value.tuple #[.int .i64 t529, .bool t530], .agg #[.int .i64 a0_0, .slice A0_1 (List.length l0_1) c0_1], Value.tuple #[.int .i64 t529, .bool t530], .int .i64 t529, u138, Value.tuple #[.int .i64 t531, .bool t532], u140, u141, u142, u143, u144, u145, u146, u147, u148, u149, u150, u151, u152, u153, u154, u155, u156, u157, u158, u159, u160, u161, u162, u163, u164, u165, u166, u167, u168, u169, u170, u171, u172, u173, u174, u175, u176, u177, u178, u179, u180, u181, u182, u183, u184, u185, u186, u187, u188, u189, u190, u191, u192, u193, u194, u195, u196, u197, u198, u199, u200, u201, u202, u203, u204, u205, u206, u207, u208, u209, u210, u211, u212, u213, u214, u215, u216, u217, u218, u219, u220, u221, u222, u223, u224, u225, u226, u227, u228, u229, u230, u231, u232, u233, u234, u235, u236, u237, u238, u239, u240, u241, u242, u243, u244, u245, u246, u247, u248, u249, u250, u251, u252, u253, u254, u255, u256, u257, u258, u259, u260, u261, u262, u263, u264, u265, u266, u267, u268, u269, u270, u271, u272, u273, u274, u275, u276, u277, u278, u279, u280, u281, u282, u283, u284, u285, u286, u287, u288, u289, u290, u291, u292, u293, u294, u295, u296, u297, u298, u299, u300, u301, u302, u303, u304, u305, u306, .bool x307_22, undef, undef, undef, undef, undef, undef, undef, undef, undef, undef, undef, undef, undef, undef, undef, undef, undef, undef, undef, undef, undef, undef, undef, undef, undef, undef, undef, undef, undef, undef, undef, undef, undef, undef, undef, undef, undef, undef, undef, undef, undef, undef, undef, undef, undef, undef, undef, undef, undef, undef, undef, undef, undef, undef, undef, undef, undef, undef, undef, undef, undef, undef, undef, undef, undef, undef, undef, undef, undef, undef, undef, undef, undef, undef, undef, undef, undef, undef, undef, undef, undef, undef, undef, undef, undef, undef, undef, undef, undef, undef, undef, undef, undef, undef, undef, undef, undef, undef, undef, undef, undef, undef, undef, undef, undef, undef, undef, undef, undef, undef, undef, undef, undef, undef, undef, undef, undef, undef, undef, undef, undef, undef, undef, undef, undef, undef, undef, undef, undef, undef, undef, undef, undef, undef, undef, undef, undef, undef, undef, undef, undef, undef, undef, undef, undef, undef, undef, undef, undef, undef, undef, undef, undef, undef, undef, undef, undef, undef, undef, undef, undef, undef, undef, undef, undef, undef, undef, undef, undef, undef, undef, undef, undef, undef, undef, undef, undef, undef, undef, undef, undef, undef, undef, undef, undef, undef, undef, undef, undef, undef, undef, undef, undef, undef, undef, undef, undef, undef, undef, undef, undef, undef, undef, undef, undef, undef, undef, undef, undef, undef, undef, undef, undef, undef, undef, undef, undef, undef, undef, undef, undef, undef, undef, undef, undef, undef, undef, undef, undef, undef, undef, undef, undef, undef, undef, undef], defers := [] } wc := by
 conv at x2_ in cdd _ _ => whnf
 conv in cdd _ _ => whnf
 try dsimp only
 cases kq with
 | zero => exact absurd HA.out (by simp [laws_FnRowsGuessedOfAll.j0])
 | succ kj22 =>
  have H := HA.out
  clear HA
  simp only [laws_FnRowsGuessedOfAll.j0] at H
  by_cases c121 : x307_22 = true
  ·subst c121
   rw [if_pos rfl] at H
   exact absurd (Option.some.inj H) (by rw [HRT.out]; decide)
  replace c121 := Bool.eq_false_iff.mpr c121
  subst c121
  rw [if_neg (show ¬ (false = true) by decide)] at H
  have HC122 := Aside0.mk H
  clear H
  go_upto_if 308 with (fail)
  go_cut [249, 250, 251, 253, 255, 256, 257, 258, 259, 260, 261, 262, 263, 264, 265, 266, 268, 269, 270, 271, 272, 273, 274, 275, 276, 277, 278, 279, 280, 281, 282, 283, 284, 285, 286, 287, 288, 289, 290, 291, 292, 293, 294, 295, 296, 297, 298, 299, 300, 301, 302, 303, 304, 305, 306, 307, 308] from 9999 (fun _ _ _ _ _ _ _ _ _ _ _ _ _ _ _ _ _ _ _ _ _ _ _ _ _ _ _ _ _ _ _ _ _ _ _ _ _ _ _ _ _ _ _ _ _ _ _ _ _ _ _ _ _ _ _ _ _ wc => ∃ (kq : Nat), Aside0 (laws_FnRowsGuessedOfAll.j7 kq a1 = some r) ∧ Aside0 (kq ≤ kj22) ∧ Aside0 (Below w.heap.size w wc))
  case first =>
   rename_i J2_ K2_ hJ2_ hM2_
   have H := HC122.out
   clear HC122
   by_cases c123 : t492 = true
   ·subst c123
    rw [if_pos rfl] at H
    have HC124 := Aside0.mk H
    clear H
    go_upto_region 24 with (fail)
    go_cut [249, 250, 251, 253, 255, 256, 257, 258, 259, 260, 261, 262, 263, 264, 265, 266, 268, 269, 270, 271, 272, 273, 274, 275, 276, 277, 278, 279, 280, 281, 282, 283, 284, 285, 286, 287, 288, 289, 290, 291, 292, 293, 294, 295, 296, 297, 298, 299, 300, 301, 302, 303, 304, 305, 306, 307, 308, 374] from 9999 (fun _ _ _ _ _ _ _ _ _ _ _ _ _ _ _ _ _ _ _ _ _ _ _ _ _ _ _ _ _ _ _ _ _ _ _ _ _ _ _ _ _ _ _ _ _ _ _ _ _ _ _ _ _ _ _ _ _ v374 wc => ∃ (kq : Nat) (x374_123 : Bool), v374 = .bool x374_123 ∧ Aside0 (laws_FnRowsGuessedOfAll.j1 kq a1 t489 t497 t505 t513 t521 t529 t533 x374_123 a0_0 l0_1 = some r) ∧ Aside0 (kq ≤ kj22) ∧ Aside0 (Kd.R Kd.string 9 wc w.heap.size (fun _ => True) v490 t489) ∧ Aside0 (Kd.R (Kd.int .i64) 3 wc w.heap.size (fun k_ => some k_ ≠ (v522 : Value).ownBlock) v514 t513) ∧ Aside0 (Kd.R (Kd.int .i64) 3 wc w.heap.size (fun k_ => some k_ ≠ (v514 : Value).ownBlock) v522 t521) ∧ Aside0 (wc.heap[gb488]? = some (.cells #[.int .i64 a0_0, (.slice A0_1 l0_1.length c0_1)] 24 (0, 0))) ∧ Aside0 (Below w.heap.size w wc))
    case first =>
     rename_i J3_ K3_ hJ3_ hM3_
     have H := HC124.out
     clear HC124
     by_cases c125 : (t489.length : Int) = t497
     ·rw [if_pos c125] at H
      have c125b0 : ((t489.length : Int) == t497) = true := beq_iff_eq.mpr c125
      have c125b1 : ((t489.length : Int) != t497) = false := bne_eq_false_iff_eq.mpr c125
      clear c125
      (first | rw [c125b0] | rw [@decide_eq_true _ _ (of_decide_eq_true c125b1)] | rw [@decide_eq_false _ _ (of_decide_eq_false c125b1)] | (simp only [i64_w, i32_w]; rw [c125b0]) | skip)
      by_cases c126 : t502 = true
      ·subst c126
       rw [if_pos rfl] at H
       replace H := oi H
       obtain ⟨c127, H⟩ := H
       have c127b0 := decide_eq_true c127
       have c127b1 : decide (0 < t489.length) = true := decide_eq_true (by omega)
       clear c127
       by_cases c128 : t501.toList = (rdOf ByteArray.empty t489 0).toList
       ·rw [if_pos c128] at H
        have c128b0 : (t501.toList == (rdOf ByteArray.empty t489 0).toList) = true := beq_iff_eq.mpr c128
        have c128b1 : (t501.toList != (rdOf ByteArray.empty t489 0).toList) = false := bne_eq_false_iff_eq.mpr c128
        clear c128
        by_cases c129 : (t509 != (t497 == 1)) = true
        ·rw [if_pos c129] at H
         have c129b0 : (t509 != (t497 == 1)) = true := c129
         (try (have c129b1 : decide (t509 = (t497 == 1)) = false := by simpa using c129))
         (try (have c129b2 : (t509 == (t497 == 1)) = false := by simpa using c129))
         (try (have c129b3 : ¬ (t509 = (t497 == 1)) := by simpa using c129))
         clear c129
         exact absurd (Option.some.inj H) (by rw [HRT.out]; decide)
        rw [if_neg c129] at H
        have c129b0 : (t509 != (t497 == 1)) = false := by simpa using c129
        (try (have c129b1 : decide (t509 = (t497 == 1)) = true := by simpa using c129))
        (try (have c129b2 : (t509 == (t497 == 1)) = true := by simpa using c129))
        clear c129
        by_cases c130 : (t521.length : Int) = (wrap64 ((l0_1.length : Int) + 1))
        ·rw [if_pos c130] at H
         have c130b0 : ((t521.length : Int) == (wrap64 ((l0_1.length : Int) + 1))) = true := beq_iff_eq.mpr c130
         have c130b1 : ((t521.length : Int) != (wrap64 ((l0_1.length : Int) + 1))) = false := bne_eq_false_iff_eq.mpr c130
         clear c130
         replace H := oi H
         obtain ⟨c131, H⟩ := H
         have c131b0 := decide_eq_true c131
         have c131b1 : decide (0 < t521.length) = true := decide_eq_true (by omega)
         clear c131
         replace H := oi H
         obtain ⟨c132, H⟩ := H
         have c132b0 := eq_true c132
         have c132b1 := decide_eq_true c132
         clear c132
         obtain ⟨ji133, hji133⟩ : ∃ j_ : Int, (shl .i64 1 a0_0) = j_ := ⟨_, rfl⟩
         replace H : (if (rd t521 0) = (ji133) then (if 0 ≤ (l0_1.length : Int) then (if (l0_1.length : Int) < (t521.length : Int) then (if (rd t521 (l0_1.length : Int)) = t497 then (if t509 = true then (if t505.toList = t501.toList then (laws_FnRowsGuessedOfAll.j1 kj22 a1 t489 t497 t505 t513 t521 t529 t533 ((t505.size : Int) != a0_0) a0_0 l0_1) else (some false)) else (laws_FnRowsGuessedOfAll.j1 kj22 a1 t489 t497 t505 t513 t521 t529 t533 ((t505.size : Int) != a0_0) a0_0 l0_1)) else (some false)) else (none)) else (none)) else (some false)) = some r := by first | (rw [hji133] at H; exact H) | (simp only [hji133] at H ⊢; exact H)
         have hji133_ : (IntKind.i64.wrap (1 * 2 ^ min a0_0.toNat 64)) = ji133 := hji133
         have hji133z : a0_0 ≤ 64 → (IntKind.i64.wrap (1 * 2 ^ a0_0.toNat)) = ji133 := shl_small hji133
         have hji133u : (IntKind.i64.wrap (2 ^ min a0_0.toNat 64)) = ji133 := by have h_ := hji133_; rw [Int.one_mul] at h_; exact h_
         have hji133v : a0_0 ≤ 64 → (IntKind.i64.wrap (2 ^ a0_0.toNat)) = ji133 := fun hle_ => by have h_ := hji133z hle_; rw [Int.one_mul] at h_; exact h_
         have hji133y : (wrap64 (1 * 2 ^ min a0_0.toNat 64)) = ji133 := (i64_w _).symm.trans hji133_
         have hji133x : a0_0 ≤ 64 → (wrap64 (1 * 2 ^ a0_0.toNat)) = ji133 := fun h_ => (i64_w _).symm.trans (hji133z h_)
         by_cases c134 : (rd t521 0) = (ji133)
         ·rw [if_pos c134] at H
          have c134b0 : ((rd t521 0) == (ji133)) = true := beq_iff_eq.mpr c134
          have c134b1 : ((rd t521 0) != (ji133)) = false := bne_eq_false_iff_eq.mpr c134
          clear c134
          replace H := oi H
          obtain ⟨c135, H⟩ := H
          have c135b0 := decide_eq_true c135
          have c135b1 : decide (0 ≤ l0_1.length) = true := decide_eq_true (by omega)
          clear c135
          replace H := oi H
          obtain ⟨c136, H⟩ := H
          have c136b0 := decide_eq_true c136
          have c136b1 : decide (l0_1.length < t521.length) = true := decide_eq_true (Int.ofNat_lt.mp c136)
          clear c136
          by_cases c137 : (rd t521 (l0_1.length : Int)) = t497
          ·rw [if_pos c137] at H
           have c137b0 : ((rd t521 (l0_1.length : Int)) == t497) = true := beq_iff_eq.mpr c137
           have c137b1 : ((rd t521 (l0_1.length : Int)) != t497) = false := bne_eq_false_iff_eq.mpr c137
           clear c137
           by_cases c138 : t509 = true
           ·subst c138
            rw [if_pos rfl] at H
            by_cases c139 : t505.toList = t501.toList
            ·rw [if_pos c139] at H
             have c139b0 : (t505.toList == t501.toList) = true := beq_iff_eq.mpr c139
             have c139b1 : (t505.toList != t501.toList) = false := bne_eq_false_iff_eq.mpr c139
             clear c139
             have H' := Aside0.mk H
             clear H
             try go_upto_region 24 with (fail)
             replace HO_5 := Aside0.mk (Kd.R_drew HO_5.out)
             replace HO_25 := Aside0.mk (Kd.R_drew HO_25.out)
             replace HO_29 := Aside0.mk (Kd.R_drew HO_29.out)
             replace BK488 := Aside0.mk (blk_drew BK488.out)
             replace HB := Aside0.mk (below_drew1 HB.out)
             obtain ⟨Ao141, co141, eo141⟩ := Kd.R_slice HO_5.out
             (first | subst eo141 | (injection eo141 with f1_ f2_ f3_; have f4_ := f1_.symm; have f5_ := f3_.symm; clear f1_ f2_ f3_; subst f4_; subst f5_))
             have p543 : 0 ≤ (0 : Int) := (by omega)
             have q543 : 0 < (t489.length : Int) := of_decide_eq_true asm
             obtain ⟨ad543, e543, hx543_0⟩ := Kd.at_string (Kd.R_reads' HO_5.out).2.2 0 p543 q543
             cases e543
             have qi543 : (0 < t489.length) = True := eq_true (by omega)
             (try rw [show ((0 : Int)).toNat = 0 from rfl] at hx543_0)
             (try rw [Addr.add_zero'] at hx543_0)
             replace p543 := eq_true p543
             replace q543 := eq_true q543
             obtain ⟨Ao142, co142, eo142⟩ := Kd.R_slice HO_29.out
             (first | subst eo142 | (injection eo142 with f1_ f2_ f3_; have f4_ := f1_.symm; have f5_ := f3_.symm; clear f1_ f2_ f3_; subst f4_; subst f5_))
             have p544 : 0 ≤ (0 : Int) := (by omega)
             have q544 : 0 < (t521.length : Int) := of_decide_eq_true asm
             obtain ⟨ad544, e544, hx544_0⟩ := Kd.at_int (Kd.R_reads' HO_29.out).2.2 0 p544 q544
             cases e544
             have qi544 : (0 < t521.length) = True := eq_true (by omega)
             (try rw [show ((0 : Int)).toNat = 0 from rfl] at hx544_0)
             (try rw [Addr.add_zero'] at hx544_0)
             replace p544 := eq_true p544
             replace q544 := eq_true q544
             have p545 : 0 ≤ ((l0_1.length : Int) : Int) := of_decide_eq_true asm
             have q545 : (l0_1.length : Int) < (t521.length : Int) := of_decide_eq_true asm
             obtain ⟨ad545, e545, hx545_0⟩ := Kd.at_int (Kd.R_reads' HO_29.out).2.2 (l0_1.length : Int) p545 q545
             obtain rfl : ad544 = ad545 := (by injection e545)
             (try simp only [Go.IntWalk.toNatUp] at hx545_0)
             replace p545 := eq_true p545
             replace q545 := eq_true q545
             refine start_ (n := 66) (S := fun w' => w'.cell? ⟨gb488, 0, none⟩ = some (.int .i64 a0_0) ∧ w'.cell? ⟨gb488, 1, none⟩ = some (.slice A0_1 l0_1.length c0_1) ∧ w'.cell? ad543 = some (.string (rdOf ByteArray.empty t489 0)) ∧ w'.cell? ad544 = some (.int .i64 (rd t521 0)) ∧ w'.cell? (ad544.add l0_1.length) = some (.int .i64 (rd t521 (l0_1.length : Int)))) (ds := []) (tb 66 0) (by kernel_rfl) rfl rfl ⟨ec BK488, ec BK488, hx543_0, hx544_0, hx545_0⟩ (fun hHeld => ?_); refine with_tabW laws_FnRowsGuessedOfAll.tab24 laws_FnRowsGuessedOfAll.bits24 (fun HT_ HW_ => ?_)
             generalize wc.drew = w140 at HO_5 HO_25 HO_29 BK488 HB hx543_0 hx544_0 hx545_0 hHeld ⊢
             refine pu 0 (some 309) (tb 66 1) ?_
             refine pu 1 (some 310) (tb 66 3) ?_
             refine pu 2 (some 311) (tb 66 7) ?_
             refine pu 3 (some 312) (tb 66 15) ?_
             refine pu 4 (some 313) (tb 66 31) ?_
             refine pu 5 (some 314) (tb 66 63) ?_
             refine pu 6 (some 315) (tb 66 127) ?_
             refine pu 7 (some 316) (tb 66 255) ?_
             refine pu 8 (some 317) (tb 66 511) ?_
             refine pu 9 (some 318) (tb 66 1023) ?_
             refine tk 10 (some 319) (tb 66 2047) (hT := HT_) (hB := HW_) hHeld ?_
             refine pu 11 (some 320) (tb 66 4095) ?_
             refine pu 12 (some 321) (tb 66 8191) ?_
             refine pu 13 (some 322) (tb 66 16383) ?_
             refine pu 14 (some 323) (tb 66 32767) ?_
             refine pu 15 (some 324) (tb 66 65535) ?_
             refine pu 16 (some 325) (tb 66 131071) ?_
             refine pu 17 (some 326) (tb 66 262143) ?_
             refine pu 18 (some 327) (tb 66 524287) ?_
             refine pu 19 (some 328) (tb 66 1048575) ?_
             refine pu 20 (some 329) (tb 66 2097151) ?_
             refine pu 21 (some 330) (tb 66 4194303) ?_
             refine pu 22 (some 331) (tb 66 8388607) ?_
             refine pu 23 (some 332) (tb 66 16777215) ?_
             refine tk 24 (some 333) (tb 66 33554431) (hT := HT_) (hB := HW_) hHeld ?_
             refine pu 25 (some 334) (tb 66 67108863) ?_
             refine pu 26 (some 335) (tb 66 134217727) ?_
             refine pu 27 (some 336) (tb 66 268435455) ?_
             refine pu 28 (some 337) (tb 66 536870911) ?_
             refine pu 29 (some 338) (tb 66 1073741823) ?_
             refine pu 30 (some 339) (tb 66 2147483647) ?_
             refine pu 31 (some 340) (tb 66 4294967295) ?_
             refine pu 33 (some 342) (tb 66 12884901887) ?_
             refine tk 32 (some 341) (tb 66 17179869183) (hT := HT_) (hB := HW_) hHeld ?_
             refine tk 34 (some 343) (tb 66 34359738367) (hT := HT_) (hB := HW_) hHeld ?_
             refine pu 35 (some 344) (tb 66 68719476735) ?_
             refine pu 36 (some 345) (tb 66 137438953471) ?_
             refine pu 37 (some 346) (tb 66 274877906943) ?_
             refine pu 38 (some 347) (tb 66 549755813887) ?_
             refine pu 39 (some 348) (tb 66 1099511627775) ?_
             refine pu 40 (some 349) (tb 66 2199023255551) ?_
             refine pu 45 (some 354) (tb 66 37383395344383) ?_
             refine tk 41 (some 350) (tb 66 39582418599935) (hT := HT_) (hB := HW_) hHeld ?_
             refine pu 42 (some 351) (tb 66 43980465111039) ?_
             refine pu 43 (some 352) (tb 66 52776558133247) ?_
             refine tk 44 (some 353) (tb 66 70368744177663) (hT := HT_) (hB := HW_) hHeld ?_
             refine pu 46 (some 355) (tb 66 140737488355327) ?_
             refine pu 47 (some 356) (tb 66 281474976710655) ?_
             refine pu 48 (some 357) (tb 66 562949953421311) ?_
             refine pu 49 (some 358) (tb 66 1125899906842623) ?_
             refine pu 50 (some 359) (tb 66 2251799813685247) ?_
             refine pu 51 (some 360) (tb 66 4503599627370495) ?_
             refine pu 52 (some 361) (tb 66 9007199254740991) ?_
             refine pu 53 (some 362) (tb 66 18014398509481983) ?_
             refine pu 54 (some 363) (tb 66 36028797018963967) ?_
             refine pu 55 (some 364) (tb 66 72057594037927935) ?_
             refine pu 56 (some 365) (tb 66 144115188075855871) ?_
             refine pu 57 (some 366) (tb 66 288230376151711743) ?_
             refine pu 58 (some 367) (tb 66 576460752303423487) ?_
             refine pu 59 (some 368) (tb 66 1152921504606846975) ?_
             refine pu 60 (some 369) (tb 66 2305843009213693951) ?_
             refine pu 61 (some 370) (tb 66 4611686018427387903) ?_
             refine tk 62 (some 371) (tb 66 9223372036854775807) (hT := HT_) (hB := HW_) hHeld ?_
             refine pu 63 (some 372) (tb 66 18446744073709551615) ?_
             refine pu 64 (some 373) (tb 66 36893488147419103231) ?_
             refine pu 65 (some 374) (tb 66 73786976294838206463) ?_
             refine done_ (done_of HT_.out (by kernel_rfl)) ?_
             try go_wp2
             go_meet
             case rel => exact ⟨_, (((t505.size : Int) != a0_0)), (rs), H', ⟨by have := HJ22.out; first | omega | exact Nat.le_refl _⟩, ⟨pr HO_5⟩, ⟨pr HO_25⟩, ⟨pr HO_29⟩, ⟨pk BK488⟩, ⟨bw⟩⟩
            rw [if_neg c139] at H
            have c139b0 : (t505.toList == t501.toList) = false := beq_eq_false_iff_ne.mpr c139
            have c139b1 : (t505.toList != t501.toList) = true := bne_iff_ne.mpr c139
            exact absurd (Option.some.inj H) (by rw [HRT.out]; decide)
           replace c138 := Bool.eq_false_iff.mpr c138
           subst c138
           rw [if_neg (show ¬ (false = true) by decide)] at H
           have H' := Aside0.mk H
           clear H
           try go_upto_region 24 with (fail)
           replace HO_5 := Aside0.mk (Kd.R_drew HO_5.out)
           replace HO_25 := Aside0.mk (Kd.R_drew HO_25.out)
           replace HO_29 := Aside0.mk (Kd.R_drew HO_29.out)
           replace BK488 := Aside0.mk (blk_drew BK488.out)
           replace HB := Aside0.mk (below_drew1 HB.out)
           obtain ⟨Ao144, co144, eo144⟩ := Kd.R_slice HO_5.out
           (first | subst eo144 | (injection eo144 with f1_ f2_ f3_; have f4_ := f1_.symm; have f5_ := f3_.symm; clear f1_ f2_ f3_; subst f4_; subst f5_))
           have p543 : 0 ≤ (0 : Int) := (by omega)
           have q543 : 0 < (t489.length : Int) := of_decide_eq_true asm
           obtain ⟨ad543, e543, hx543_0⟩ := Kd.at_string (Kd.R_reads' HO_5.out).2.2 0 p543 q543
           cases e543
           have qi543 : (0 < t489.length) = True := eq_true (by omega)
           (try rw [show ((0 : Int)).toNat = 0 from rfl] at hx543_0)
           (try rw [Addr.add_zero'] at hx543_0)
           replace p543 := eq_true p543
           replace q543 := eq_true q543
           obtain ⟨Ao145, co145, eo145⟩ := Kd.R_slice HO_29.out
           (first | subst eo145 | (injection eo145 with f1_ f2_ f3_; have f4_ := f1_.symm; have f5_ := f3_.symm; clear f1_ f2_ f3_; subst f4_; subst f5_))
           have p544 : 0 ≤ (0 : Int) := (by omega)
           have q544 : 0 < (t521.length : Int) := of_decide_eq_true asm
           obtain ⟨ad544, e544, hx544_0⟩ := Kd.at_int (Kd.R_reads' HO_29.out).2.2 0 p544 q544
           cases e544
           have qi544 : (0 < t521.length) = True := eq_true (by omega)
           (try rw [show ((0 : Int)).toNat = 0 from rfl] at hx544_0)
           (try rw [Addr.add_zero'] at hx544_0)
           replace p544 := eq_true p544
           replace q544 := eq_true q544
           have p545 : 0 ≤ ((l0_1.length : Int) : Int) := of_decide_eq_true asm
           have q545 : (l0_1.length : Int) < (t521.length : Int) := of_decide_eq_true asm
           obtain ⟨ad545, e545, hx545_0⟩ := Kd.at_int (Kd.R_reads' HO_29.out).2.2 (l0_1.length : Int) p545 q545
           obtain rfl : ad544 = ad545 := (by injection e545)
           (try simp only [Go.IntWalk.toNatUp] at hx545_0)
           replace p545 := eq_true p545
           replace q545 := eq_true q545
           refine start_ (n := 66) (S := fun w' => w'.cell? ⟨gb488, 0, none⟩ = some (.int .i64 a0_0) ∧ w'.cell? ⟨gb488, 1, none⟩ = some (.slice A0_1 l0_1.length c0_1) ∧ w'.cell? ad543 = some (.string (rdOf ByteArray.empty t489 0)) ∧ w'.cell? ad544 = some (.int .i64 (rd t521 0)) ∧ w'.cell? (ad544.add l0_1.length) = some (.int .i64 (rd t521 (l0_1.length : Int)))) (ds := []) (tb 66 0) (by kernel_rfl) rfl rfl ⟨ec BK488, ec BK488, hx543_0, hx544_0, hx545_0⟩ (fun hHeld => ?_); refine with_tabW laws_FnRowsGuessedOfAll.tab24 laws_FnRowsGuessedOfAll.bits24 (fun HT_ HW_ => ?_)
           generalize wc.drew = w143 at HO_5 HO_25 HO_29 BK488 HB hx543_0 hx544_0 hx545_0 hHeld ⊢
           refine pu 0 (some 309) (tb 66 1) ?_
           refine pu 1 (some 310) (tb 66 3) ?_
           refine pu 2 (some 311) (tb 66 7) ?_
           refine pu 3 (some 312) (tb 66 15) ?_
           refine pu 4 (some 313) (tb 66 31) ?_
           refine pu 5 (some 314) (tb 66 63) ?_
           refine pu 6 (some 315) (tb 66 127) ?_
           refine pu 7 (some 316) (tb 66 255) ?_
           refine pu 8 (some 317) (tb 66 511) ?_
           refine pu 9 (some 318) (tb 66 1023) ?_
           refine tk 10 (some 319) (tb 66 2047) (hT := HT_) (hB := HW_) hHeld ?_
           refine pu 11 (some 320) (tb 66 4095) ?_
           refine pu 12 (some 321) (tb 66 8191) ?_
           refine pu 13 (some 322) (tb 66 16383) ?_
           refine pu 14 (some 323) (tb 66 32767) ?_
           refine pu 15 (some 324) (tb 66 65535) ?_
           refine pu 16 (some 325) (tb 66 131071) ?_
           refine pu 17 (some 326) (tb 66 262143) ?_
           refine pu 18 (some 327) (tb 66 524287) ?_
           refine pu 19 (some 328) (tb 66 1048575) ?_
           refine pu 20 (some 329) (tb 66 2097151) ?_
           refine pu 21 (some 330) (tb 66 4194303) ?_
           refine pu 22 (some 331) (tb 66 8388607) ?_
           refine pu 23 (some 332) (tb 66 16777215) ?_
           refine tk 24 (some 333) (tb 66 33554431) (hT := HT_) (hB := HW_) hHeld ?_
           refine pu 25 (some 334) (tb 66 67108863) ?_
           refine pu 26 (some 335) (tb 66 134217727) ?_
           refine pu 27 (some 336) (tb 66 268435455) ?_
           refine pu 28 (some 337) (tb 66 536870911) ?_
           refine pu 29 (some 338) (tb 66 1073741823) ?_
           refine pu 30 (some 339) (tb 66 2147483647) ?_
           refine pu 31 (some 340) (tb 66 4294967295) ?_
           refine pu 33 (some 342) (tb 66 12884901887) ?_
           refine tk 32 (some 341) (tb 66 17179869183) (hT := HT_) (hB := HW_) hHeld ?_
           refine tk 34 (some 343) (tb 66 34359738367) (hT := HT_) (hB := HW_) hHeld ?_
           refine pu 35 (some 344) (tb 66 68719476735) ?_
           refine pu 36 (some 345) (tb 66 137438953471) ?_
           refine pu 37 (some 346) (tb 66 274877906943) ?_
           refine pu 38 (some 347) (tb 66 549755813887) ?_
           refine pu 39 (some 348) (tb 66 1099511627775) ?_
           refine pu 40 (some 349) (tb 66 2199023255551) ?_
           refine pu 45 (some 354) (tb 66 37383395344383) ?_
           refine tk 41 (some 350) (tb 66 39582418599935) (hT := HT_) (hB := HW_) hHeld ?_
           refine pu 42 (some 351) (tb 66 43980465111039) ?_
           refine pu 43 (some 352) (tb 66 52776558133247) ?_
           refine tk 44 (some 353) (tb 66 70368744177663) (hT := HT_) (hB := HW_) hHeld ?_
           refine pu 46 (some 355) (tb 66 140737488355327) ?_
           refine pu 47 (some 356) (tb 66 281474976710655) ?_
           refine pu 48 (some 357) (tb 66 562949953421311) ?_
           refine pu 49 (some 358) (tb 66 1125899906842623) ?_
           refine pu 50 (some 359) (tb 66 2251799813685247) ?_
           refine pure_ (i := 51) (N := some 360) (v := undef) (a' := ?_) (tb 66 4503599627370495) rfl rfl (any_of HT_.out (by kernel_rfl)) (fun _ _ _ h => h) (Or.inr ⟨by rfl, rfl⟩) ?_ ?_
           rotate_left
           ·simp only [Act.put, List.setIfInBounds_toArray, List.set_cons_zero, List.set_cons_succ, i64_w, i32_w]
            rfl
           refine pure_ (i := 52) (N := some 361) (v := undef) (a' := ?_) (tb 66 9007199254740991) rfl rfl (any_of HT_.out (by kernel_rfl)) (fun _ _ _ h => h) (Or.inr ⟨by rfl, rfl⟩) ?_ ?_
           rotate_left
           ·simp only [Act.put, List.setIfInBounds_toArray, List.set_cons_zero, List.set_cons_succ, i64_w, i32_w]
            rfl
           refine pure_ (i := 53) (N := some 362) (v := undef) (a' := ?_) (tb 66 18014398509481983) rfl rfl (any_of HT_.out (by kernel_rfl)) (fun _ _ _ h => h) (Or.inr ⟨by rfl, rfl⟩) ?_ ?_
           rotate_left
           ·simp only [Act.put, List.setIfInBounds_toArray, List.set_cons_zero, List.set_cons_succ, i64_w, i32_w]
            rfl
           refine pu 54 (some 363) (tb 66 36028797018963967) ?_
           refine pu 55 (some 364) (tb 66 72057594037927935) ?_
           refine pu 56 (some 365) (tb 66 144115188075855871) ?_
           refine pu 57 (some 366) (tb 66 288230376151711743) ?_
           refine pu 58 (some 367) (tb 66 576460752303423487) ?_
           refine pu 59 (some 368) (tb 66 1152921504606846975) ?_
           refine pu 60 (some 369) (tb 66 2305843009213693951) ?_
           refine pu 61 (some 370) (tb 66 4611686018427387903) ?_
           refine tk 62 (some 371) (tb 66 9223372036854775807) (hT := HT_) (hB := HW_) hHeld ?_
           refine pu 63 (some 372) (tb 66 18446744073709551615) ?_
           refine pu 64 (some 373) (tb 66 36893488147419103231) ?_
           refine pu 65 (some 374) (tb 66 73786976294838206463) ?_
           refine done_ (done_of HT_.out (by kernel_rfl)) ?_
           try go_wp2
           go_meet
           case rel => exact ⟨_, (((t505.size : Int) != a0_0)), (rs), H', ⟨by have := HJ22.out; first | omega | exact Nat.le_refl _⟩, ⟨pr HO_5⟩, ⟨pr HO_25⟩, ⟨pr HO_29⟩, ⟨pk BK488⟩, ⟨bw⟩⟩
          rw [if_neg c137] at H
          have c137b0 : ((rd t521 (l0_1.length : Int)) == t497) = false := beq_eq_false_iff_ne.mpr c137
          have c137b1 : ((rd t521 (l0_1.length : Int)) != t497) = true := bne_iff_ne.mpr c137
          exact absurd (Option.some.inj H) (by rw [HRT.out]; decide)
         rw [if_neg c134] at H
         have c134b0 : ((rd t521 0) == (ji133)) = false := beq_eq_false_iff_ne.mpr c134
         have c134b1 : ((rd t521 0) != (ji133)) = true := bne_iff_ne.mpr c134
         exact absurd (Option.some.inj H) (by rw [HRT.out]; decide)
        rw [if_neg c130] at H
        have c130b0 : ((t521.length : Int) == (wrap64 ((l0_1.length : Int) + 1))) = false := beq_eq_false_iff_ne.mpr c130
        have c130b1 : ((t521.length : Int) != (wrap64 ((l0_1.length : Int) + 1))) = true := bne_iff_ne.mpr c130
        exact absurd (Option.some.inj H) (by rw [HRT.out]; decide)
       rw [if_neg c128] at H
       have c128b0 : (t501.toList == (rdOf ByteArray.empty t489 0).toList) = false := beq_eq_false_iff_ne.mpr c128
       have c128b1 : (t501.toList != (rdOf ByteArray.empty t489 0).toList) = true := bne_iff_ne.mpr c128
       exact absurd (Option.some.inj H) (by rw [HRT.out]; decide)
      replace c126 := Bool.eq_false_iff.mpr c126
      subst c126
      rw [if_neg (show ¬ (false = true) by decide)] at H
      by_cases c146 : (t509 != (t497 == 1)) = true
      ·rw [if_pos c146] at H
       have c146b0 : (t509 != (t497 == 1)) = true := c146
       (try (have c146b1 : decide (t509 = (t497 == 1)) = false := by simpa using c146))
       (try (have c146b2 : (t509 == (t497 == 1)) = false := by simpa using c146))
       (try (have c146b3 : ¬ (t509 = (t497 == 1)) := by simpa using c146))
       clear c146
       exact absurd (Option.some.inj H) (by rw [HRT.out]; decide)
      rw [if_neg c146] at H
      have c146b0 : (t509 != (t497 == 1)) = false := by simpa using c146
      (try (have c146b1 : decide (t509 = (t497 == 1)) = true := by simpa using c146))
      (try (have c146b2 : (t509 == (t497 == 1)) = true := by simpa using c146))
      clear c146
      by_cases c147 : (t521.length : Int) = (wrap64 ((l0_1.length : Int) + 1))
      ·rw [if_pos c147] at H
       have c147b0 : ((t521.length : Int) == (wrap64 ((l0_1.length : Int) + 1))) = true := beq_iff_eq.mpr c147
       have c147b1 : ((t521.length : Int) != (wrap64 ((l0_1.length : Int) + 1))) = false := bne_eq_false_iff_eq.mpr c147
       clear c147
       replace H := oi H
       obtain ⟨c148, H⟩ := H
       have c148b0 := decide_eq_true c148
       have c148b1 : decide (0 < t521.length) = true := decide_eq_true (by omega)
       clear c148
       replace H := oi H
       obtain ⟨c149, H⟩ := H
       have c149b0 := eq_true c149
       have c149b1 := decide_eq_true c149
       clear c149
       obtain ⟨ji150, hji150⟩ : ∃ j_ : Int, (shl .i64 1 a0_0) = j_ := ⟨_, rfl⟩
       replace H : (if (rd t521 0) = (ji150) then (if 0 ≤ (l0_1.length : Int) then (if (l0_1.length : Int) < (t521.length : Int) then (if (rd t521 (l0_1.length : Int)) = t497 then (if t509 = true then (if t505.toList = t501.toList then (laws_FnRowsGuessedOfAll.j1 kj22 a1 t489 t497 t505 t513 t521 t529 t533 false a0_0 l0_1) else (some false)) else (laws_FnRowsGuessedOfAll.j1 kj22 a1 t489 t497 t505 t513 t521 t529 t533 false a0_0 l0_1)) else (some false)) else (none)) else (none)) else (some false)) = some r := by first | (rw [hji150] at H; exact H) | (simp only [hji150] at H ⊢; exact H)
       have hji150_ : (IntKind.i64.wrap (1 * 2 ^ min a0_0.toNat 64)) = ji150 := hji150
       have hji150z : a0_0 ≤ 64 → (IntKind.i64.wrap (1 * 2 ^ a0_0.toNat)) = ji150 := shl_small hji150
       have hji150u : (IntKind.i64.wrap (2 ^ min a0_0.toNat 64)) = ji150 := by have h_ := hji150_; rw [Int.one_mul] at h_; exact h_
       have hji150v : a0_0 ≤ 64 → (IntKind.i64.wrap (2 ^ a0_0.toNat)) = ji150 := fun hle_ => by have h_ := hji150z hle_; rw [Int.one_mul] at h_; exact h_
       have hji150y : (wrap64 (1 * 2 ^ min a0_0.toNat 64)) = ji150 := (i64_w _).symm.trans hji150_
       have hji150x : a0_0 ≤ 64 → (wrap64 (1 * 2 ^ a0_0.toNat)) = ji150 := fun h_ => (i64_w _).symm.trans (hji150z h_)
       by_cases c151 : (rd t521 0) = (ji150)
       ·rw [if_pos c151] at H
        have c151b0 : ((rd t521 0) == (ji150)) = true := beq_iff_eq.mpr c151
        have c151b1 : ((rd t521 0) != (ji150)) = false := bne_eq_false_iff_eq.mpr c151
        clear c151
        replace H := oi H
        obtain ⟨c152, H⟩ := H
        have c152b0 := decide_eq_true c152
        have c152b1 : decide (0 ≤ l0_1.length) = true := decide_eq_true (by omega)
        clear c152
        replace H := oi H
        obtain ⟨c153, H⟩ := H
        have c153b0 := decide_eq_true c153
        have c153b1 : decide (l0_1.length < t521.length) = true := decide_eq_true (Int.ofNat_lt.mp c153)
        clear c153
        by_cases c154 : (rd t521 (l0_1.length : Int)) = t497
        ·rw [if_pos c154] at H
         have c154b0 : ((rd t521 (l0_1.length : Int)) == t497) = true := beq_iff_eq.mpr c154
         have c154b1 : ((rd t521 (l0_1.length : Int)) != t497) = false := bne_eq_false_iff_eq.mpr c154
         clear c154
         by_cases c155 : t509 = true
         ·subst c155
          rw [if_pos rfl] at H
          by_cases c156 : t505.toList = t501.toList
          ·rw [if_pos c156] at H
           have c156b0 : (t505.toList == t501.toList) = true := beq_iff_eq.mpr c156
           have c156b1 : (t505.toList != t501.toList) = false := bne_eq_false_iff_eq.mpr c156
           clear c156
           have H' := Aside0.mk H
           clear H
           try go_upto_region 24 with (fail)
           replace HO_5 := Aside0.mk (Kd.R_drew HO_5.out)
           replace HO_25 := Aside0.mk (Kd.R_drew HO_25.out)
           replace HO_29 := Aside0.mk (Kd.R_drew HO_29.out)
           replace BK488 := Aside0.mk (blk_drew BK488.out)
           replace HB := Aside0.mk (below_drew1 HB.out)
           obtain ⟨Ao158, co158, eo158⟩ := Kd.R_slice HO_5.out
           (first | subst eo158 | (injection eo158 with f1_ f2_ f3_; have f4_ := f1_.symm; have f5_ := f3_.symm; clear f1_ f2_ f3_; subst f4_; subst f5_))
           obtain ⟨Ao159, co159, eo159⟩ := Kd.R_slice HO_29.out
           (first | subst eo159 | (injection eo159 with f1_ f2_ f3_; have f4_ := f1_.symm; have f5_ := f3_.symm; clear f1_ f2_ f3_; subst f4_; subst f5_))
           have p546 : 0 ≤ (0 : Int) := (by omega)
           have q546 : 0 < (t521.length : Int) := of_decide_eq_true asm
           obtain ⟨ad546, e546, hx546_0⟩ := Kd.at_int (Kd.R_reads' HO_29.out).2.2 0 p546 q546
           cases e546
           have qi546 : (0 < t521.length) = True := eq_true (by omega)
           (try rw [show ((0 : Int)).toNat = 0 from rfl] at hx546_0)
           (try rw [Addr.add_zero'] at hx546_0)
           replace p546 := eq_true p546
           replace q546 := eq_true q546
           have p547 : 0 ≤ ((l0_1.length : Int) : Int) := of_decide_eq_true asm
           have q547 : (l0_1.length : Int) < (t521.length : Int) := of_decide_eq_true asm
           obtain ⟨ad547, e547, hx547_0⟩ := Kd.at_int (Kd.R_reads' HO_29.out).2.2 (l0_1.length : Int) p547 q547
           obtain rfl : ad546 = ad547 := (by injection e547)
           (try simp only [Go.IntWalk.toNatUp] at hx547_0)
           replace p547 := eq_true p547
           replace q547 := eq_true q547
           refine start_ (n := 66) (S := fun w' => w'.cell? ⟨gb488, 0, none⟩ = some (.int .i64 a0_0) ∧ w'.cell? ⟨gb488, 1, none⟩ = some (.slice A0_1 l0_1.length c0_1) ∧ w'.cell? ad546 = some (.int .i64 (rd t521 0)) ∧ w'.cell? (ad546.add l0_1.length) = some (.int .i64 (rd t521 (l0_1.length : Int)))) (ds := []) (tb 66 0) (by kernel_rfl) rfl rfl ⟨ec BK488, ec BK488, hx546_0, hx547_0⟩ (fun hHeld => ?_); refine with_tabW laws_FnRowsGuessedOfAll.tab24 laws_FnRowsGuessedOfAll.bits24 (fun HT_ HW_ => ?_)
           generalize wc.drew = w157 at HO_5 HO_25 HO_29 BK488 HB hx546_0 hx547_0 hHeld ⊢
           refine pu 0 (some 309) (tb 66 1) ?_
           refine pu 1 (some 310) (tb 66 3) ?_
           refine pu 2 (some 311) (tb 66 7) ?_
           refine pu 3 (some 312) (tb 66 15) ?_
           refine pu 4 (some 313) (tb 66 31) ?_
           refine pu 5 (some 314) (tb 66 63) ?_
           refine pu 6 (some 315) (tb 66 127) ?_
           refine pure_ (i := 7) (N := some 316) (v := undef) (a' := ?_) (tb 66 255) rfl rfl (any_of HT_.out (by kernel_rfl)) (fun _ _ _ h => h) (Or.inr ⟨by rfl, rfl⟩) ?_ ?_
           rotate_left
           ·simp only [Act.put, List.setIfInBounds_toArray, List.set_cons_zero, List.set_cons_succ, i64_w, i32_w]
            rfl
           refine pure_ (i := 8) (N := some 317) (v := undef) (a' := ?_) (tb 66 511) rfl rfl (any_of HT_.out (by kernel_rfl)) (fun _ _ _ h => h) (Or.inr ⟨by rfl, rfl⟩) ?_ ?_
           rotate_left
           ·simp only [Act.put, List.setIfInBounds_toArray, List.set_cons_zero, List.set_cons_succ, i64_w, i32_w]
            rfl
           refine pure_ (i := 9) (N := some 318) (v := undef) (a' := ?_) (tb 66 1023) rfl rfl (any_of HT_.out (by kernel_rfl)) (fun _ _ _ h => h) (Or.inr ⟨by rfl, rfl⟩) ?_ ?_
           rotate_left
           ·simp only [Act.put, List.setIfInBounds_toArray, List.set_cons_zero, List.set_cons_succ, i64_w, i32_w]
            rfl
           refine pure_ (i := 10) (N := some 319) (v := undef) (a' := ?_) (tb 66 2047) rfl rfl (any_of HT_.out (by kernel_rfl)) (fun _ _ _ h => h) (Or.inr ⟨by rfl, rfl⟩) ?_ ?_
           rotate_left
           ·simp only [Act.put, List.setIfInBounds_toArray, List.set_cons_zero, List.set_cons_succ, i64_w, i32_w]
            rfl
           refine pure_ (i := 11) (N := some 320) (v := undef) (a' := ?_) (tb 66 4095) rfl rfl (any_of HT_.out (by kernel_rfl)) (fun _ _ _ h => h) (Or.inr ⟨by rfl, rfl⟩) ?_ ?_
           rotate_left
           ·simp only [Act.put, List.setIfInBounds_toArray, List.set_cons_zero, List.set_cons_succ, i64_w, i32_w]
            rfl
           refine pu 12 (some 321) (tb 66 8191) ?_
           refine pu 13 (some 322) (tb 66 16383) ?_
           refine pu 14 (some 323) (tb 66 32767) ?_
           refine pu 15 (some 324) (tb 66 65535) ?_
           refine pu 16 (some 325) (tb 66 131071) ?_
           refine pu 17 (some 326) (tb 66 262143) ?_
           refine pu 18 (some 327) (tb 66 524287) ?_
           refine pu 19 (some 328) (tb 66 1048575) ?_
           refine pu 20 (some 329) (tb 66 2097151) ?_
           refine pu 21 (some 330) (tb 66 4194303) ?_
           refine pu 22 (some 331) (tb 66 8388607) ?_
           refine pu 23 (some 332) (tb 66 16777215) ?_
           refine tk 24 (some 333) (tb 66 33554431) (hT := HT_) (hB := HW_) hHeld ?_
           refine pu 25 (some 334) (tb 66 67108863) ?_
           refine pu 26 (some 335) (tb 66 134217727) ?_
           refine pu 27 (some 336) (tb 66 268435455) ?_
           refine pu 28 (some 337) (tb 66 536870911) ?_
           refine pu 29 (some 338) (tb 66 1073741823) ?_
           refine pu 30 (some 339) (tb 66 2147483647) ?_
           refine pu 31 (some 340) (tb 66 4294967295) ?_
           refine pu 33 (some 342) (tb 66 12884901887) ?_
           refine tk 32 (some 341) (tb 66 17179869183) (hT := HT_) (hB := HW_) hHeld ?_
           refine tk 34 (some 343) (tb 66 34359738367) (hT := HT_) (hB := HW_) hHeld ?_
           refine pu 35 (some 344) (tb 66 68719476735) ?_
           refine pu 36 (some 345) (tb 66 137438953471) ?_
           refine pu 37 (some 346) (tb 66 274877906943) ?_
           refine pu 38 (some 347) (tb 66 549755813887) ?_
           refine pu 39 (some 348) (tb 66 1099511627775) ?_
           refine pu 40 (some 349) (tb 66 2199023255551) ?_
           refine pu 45 (some 354) (tb 66 37383395344383) ?_
           refine tk 41 (some 350) (tb 66 39582418599935) (hT := HT_) (hB := HW_) hHeld ?_
           refine pu 42 (some 351) (tb 66 43980465111039) ?_
           refine pu 43 (some 352) (tb 66 52776558133247) ?_
           refine tk 44 (some 353) (tb 66 70368744177663) (hT := HT_) (hB := HW_) hHeld ?_
           refine pu 46 (some 355) (tb 66 140737488355327) ?_
           refine pu 47 (some 356) (tb 66 281474976710655) ?_
           refine pu 48 (some 357) (tb 66 562949953421311) ?_
           refine pu 49 (some 358) (tb 66 1125899906842623) ?_
           refine pu 50 (some 359) (tb 66 2251799813685247) ?_
           refine pu 51 (some 360) (tb 66 4503599627370495) ?_
           refine pu 52 (some 361) (tb 66 9007199254740991) ?_
           refine pu 53 (some 362) (tb 66 18014398509481983) ?_
           refine pu 54 (some 363) (tb 66 36028797018963967) ?_
           refine pu 55 (some 364) (tb 66 72057594037927935) ?_
           refine pu 56 (some 365) (tb 66 144115188075855871) ?_
           refine pu 57 (some 366) (tb 66 288230376151711743) ?_
           refine pu 58 (some 367) (tb 66 576460752303423487) ?_
           refine pure_ (i := 59) (N := some 368) (v := undef) (a' := ?_) (tb 66 1152921504606846975) rfl rfl (any_of HT_.out (by kernel_rfl)) (fun _ _ _ h => h) (Or.inr ⟨by rfl, rfl⟩) ?_ ?_
           rotate_left
           ·simp only [Act.put, List.setIfInBounds_toArray, List.set_cons_zero, List.set_cons_succ, i64_w, i32_w]
            rfl
           refine pure_ (i := 60) (N := some 369) (v := undef) (a' := ?_) (tb 66 2305843009213693951) rfl rfl (any_of HT_.out (by kernel_rfl)) (fun _ _ _ h => h) (Or.inr ⟨by rfl, rfl⟩) ?_ ?_
           rotate_left
           ·simp only [Act.put, List.setIfInBounds_toArray, List.set_cons_zero, List.set_cons_succ, i64_w, i32_w]
            rfl
           refine pure_ (i := 61) (N := some 370) (v := undef) (a' := ?_) (tb 66 4611686018427387903) rfl rfl (any_of HT_.out (by kernel_rfl)) (fun _ _ _ h => h) (Or.inr ⟨by rfl, rfl⟩) ?_ ?_
           rotate_left
           ·simp only [Act.put, List.setIfInBounds_toArray, List.set_cons_zero, List.set_cons_succ, i64_w, i32_w]
            rfl
           refine pure_ (i := 62) (N := some 371) (v := undef) (a' := ?_) (tb 66 9223372036854775807) rfl rfl (any_of HT_.out (by kernel_rfl)) (fun _ _ _ h => h) (Or.inr ⟨by rfl, rfl⟩) ?_ ?_
           rotate_left
           ·simp only [Act.put, List.setIfInBounds_toArray, List.set_cons_zero, List.set_cons_succ, i64_w, i32_w]
            rfl
           refine pure_ (i := 63) (N := some 372) (v := undef) (a' := ?_) (tb 66 18446744073709551615) rfl rfl (any_of HT_.out (by kernel_rfl)) (fun _ _ _ h => h) (Or.inr ⟨by rfl, rfl⟩) ?_ ?_
           rotate_left
           ·simp only [Act.put, List.setIfInBounds_toArray, List.set_cons_zero, List.set_cons_succ, i64_w, i32_w]
            rfl
           refine pu 64 (some 373) (tb 66 36893488147419103231) ?_
           refine pu 65 (some 374) (tb 66 73786976294838206463) ?_
           refine done_ (done_of HT_.out (by kernel_rfl)) ?_
           try go_wp2
           go_meet
           case rel => exact ⟨_, (false), (rs), H', ⟨by have := HJ22.out; first | omega | exact Nat.le_refl _⟩, ⟨pr HO_5⟩, ⟨pr HO_25⟩, ⟨pr HO_29⟩, ⟨pk BK488⟩, ⟨bw⟩⟩
          rw [if_neg c156] at H
          have c156b0 : (t505.toList == t501.toList) = false := beq_eq_false_iff_ne.mpr c156
          have c156b1 : (t505.toList != t501.toList) = true := bne_iff_ne.mpr c156
          exact absurd (Option.some.inj H) (by rw [HRT.out]; decide)
         replace c155 := Bool.eq_false_iff.mpr c155
         subst c155
         rw [if_neg (show ¬ (false = true) by decide)] at H
         have H' := Aside0.mk H
         clear H
         try go_upto_region 24 with (fail)
         replace HO_5 := Aside0.mk (Kd.R_drew HO_5.out)
         replace HO_25 := Aside0.mk (Kd.R_drew HO_25.out)
         replace HO_29 := Aside0.mk (Kd.R_drew HO_29.out)
         replace BK488 := Aside0.mk (blk_drew BK488.out)
         replace HB := Aside0.mk (below_drew1 HB.out)
         obtain ⟨Ao161, co161, eo161⟩ := Kd.R_slice HO_5.out
         (first | subst eo161 | (injection eo161 with f1_ f2_ f3_; have f4_ := f1_.symm; have f5_ := f3_.symm; clear f1_ f2_ f3_; subst f4_; subst f5_))
         obtain ⟨Ao162, co162, eo162⟩ := Kd.R_slice HO_29.out
         (first | subst eo162 | (injection eo162 with f1_ f2_ f3_; have f4_ := f1_.symm; have f5_ := f3_.symm; clear f1_ f2_ f3_; subst f4_; subst f5_))
         have p546 : 0 ≤ (0 : Int) := (by omega)
         have q546 : 0 < (t521.length : Int) := of_decide_eq_true asm
         obtain ⟨ad546, e546, hx546_0⟩ := Kd.at_int (Kd.R_reads' HO_29.out).2.2 0 p546 q546
         cases e546
         have qi546 : (0 < t521.length) = True := eq_true (by omega)
         (try rw [show ((0 : Int)).toNat = 0 from rfl] at hx546_0)
         (try rw [Addr.add_zero'] at hx546_0)
         replace p546 := eq_true p546
         replace q546 := eq_true q546
         have p547 : 0 ≤ ((l0_1.length : Int) : Int) := of_decide_eq_true asm
         have q547 : (l0_1.length : Int) < (t521.length : Int) := of_decide_eq_true asm
         obtain ⟨ad547, e547, hx547_0⟩ := Kd.at_int (Kd.R_reads' HO_29.out).2.2 (l0_1.length : Int) p547 q547
         obtain rfl : ad546 = ad547 := (by injection e547)
         (try simp only [Go.IntWalk.toNatUp] at hx547_0)
         replace p547 := eq_true p547
         replace q547 := eq_true q547
         refine start_ (n := 66) (S := fun w' => w'.cell? ⟨gb488, 0, none⟩ = some (.int .i64 a0_0) ∧ w'.cell? ⟨gb488, 1, none⟩ = some (.slice A0_1 l0_1.length c0_1) ∧ w'.cell? ad546 = some (.int .i64 (rd t521 0)) ∧ w'.cell? (ad546.add l0_1.length) = some (.int .i64 (rd t521 (l0_1.length : Int)))) (ds := []) (tb 66 0) (by kernel_rfl) rfl rfl ⟨ec BK488, ec BK488, hx546_0, hx547_0⟩ (fun hHeld => ?_); refine with_tabW laws_FnRowsGuessedOfAll.tab24 laws_FnRowsGuessedOfAll.bits24 (fun HT_ HW_ => ?_)
         generalize wc.drew = w160 at HO_5 HO_25 HO_29 BK488 HB hx546_0 hx547_0 hHeld ⊢
         refine pu 0 (some 309) (tb 66 1) ?_
         refine pu 1 (some 310) (tb 66 3) ?_
         refine pu 2 (some 311) (tb 66 7) ?_
         refine pu 3 (some 312) (tb 66 15) ?_
         refine pu 4 (some 313) (tb 66 31) ?_
         refine pu 5 (some 314) (tb 66 63) ?_
         refine pu 6 (some 315) (tb 66 127) ?_
         refine pure_ (i := 7) (N := some 316) (v := undef) (a' := ?_) (tb 66 255) rfl rfl (any_of HT_.out (by kernel_rfl)) (fun _ _ _ h => h) (Or.inr ⟨by rfl, rfl⟩) ?_ ?_
         rotate_left
         ·simp only [Act.put, List.setIfInBounds_toArray, List.set_cons_zero, List.set_cons_succ, i64_w, i32_w]
          rfl
         refine pure_ (i := 8) (N := some 317) (v := undef) (a' := ?_) (tb 66 511) rfl rfl (any_of HT_.out (by kernel_rfl)) (fun _ _ _ h => h) (Or.inr ⟨by rfl, rfl⟩) ?_ ?_
         rotate_left
         ·simp only [Act.put, List.setIfInBounds_toArray, List.set_cons_zero, List.set_cons_succ, i64_w, i32_w]
          rfl
         refine pure_ (i := 9) (N := some 318) (v := undef) (a' := ?_) (tb 66 1023) rfl rfl (any_of HT_.out (by kernel_rfl)) (fun _ _ _ h => h) (Or.inr ⟨by rfl, rfl⟩) ?_ ?_
         rotate_left
         ·simp only [Act.put, List.setIfInBounds_toArray, List.set_cons_zero, List.set_cons_succ, i64_w, i32_w]
          rfl
         refine pure_ (i := 10) (N := some 319) (v := undef) (a' := ?_) (tb 66 2047) rfl rfl (any_of HT_.out (by kernel_rfl)) (fun _ _ _ h => h) (Or.inr ⟨by rfl, rfl⟩) ?_ ?_
         rotate_left
         ·simp only [Act.put, List.setIfInBounds_toArray, List.set_cons_zero, List.set_cons_succ, i64_w, i32_w]
          rfl
         refine pure_ (i := 11) (N := some 320) (v := undef) (a' := ?_) (tb 66 4095) rfl rfl (any_of HT_.out (by kernel_rfl)) (fun _ _ _ h => h) (Or.inr ⟨by rfl, rfl⟩) ?_ ?_
         rotate_left
         ·simp only [Act.put, List.setIfInBounds_toArray, List.set_cons_zero, List.set_cons_succ, i64_w, i32_w]
          rfl
         refine pu 12 (some 321) (tb 66 8191) ?_
         refine pu 13 (some 322) (tb 66 16383) ?_
         refine pu 14 (some 323) (tb 66 32767) ?_
         refine pu 15 (some 324) (tb 66 65535) ?_
         refine pu 16 (some 325) (tb 66 131071) ?_
         refine pu 17 (some 326) (tb 66 262143) ?_
         refine pu 18 (some 327) (tb 66 524287) ?_
         refine pu 19 (some 328) (tb 66 1048575) ?_
         refine pu 20 (some 329) (tb 66 2097151) ?_
         refine pu 21 (some 330) (tb 66 4194303) ?_
         refine pu 22 (some 331) (tb 66 8388607) ?_
         refine pu 23 (some 332) (tb 66 16777215) ?_
         refine tk 24 (some 333) (tb 66 33554431) (hT := HT_) (hB := HW_) hHeld ?_
         refine pu 25 (some 334) (tb 66 67108863) ?_
         refine pu 26 (some 335) (tb 66 134217727) ?_
         refine pu 27 (some 336) (tb 66 268435455) ?_
         refine pu 28 (some 337) (tb 66 536870911) ?_
         refine pu 29 (some 338) (tb 66 1073741823) ?_
         refine pu 30 (some 339) (tb 66 2147483647) ?_
         refine pu 31 (some 340) (tb 66 4294967295) ?_
         refine pu 33 (some 342) (tb 66 12884901887) ?_
         refine tk 32 (some 341) (tb 66 17179869183) (hT := HT_) (hB := HW_) hHeld ?_
         refine tk 34 (some 343) (tb 66 34359738367) (hT := HT_) (hB := HW_) hHeld ?_
         refine pu 35 (some 344) (tb 66 68719476735) ?_
         refine pu 36 (some 345) (tb 66 137438953471) ?_
         refine pu 37 (some 346) (tb 66 274877906943) ?_
         refine pu 38 (some 347) (tb 66 549755813887) ?_
         refine pu 39 (some 348) (tb 66 1099511627775) ?_
         refine pu 40 (some 349) (tb 66 2199023255551) ?_
         refine pu 45 (some 354) (tb 66 37383395344383) ?_
         refine tk 41 (some 350) (tb 66 39582418599935) (hT := HT_) (hB := HW_) hHeld ?_
         refine pu 42 (some 351) (tb 66 43980465111039) ?_
         refine pu 43 (some 352) (tb 66 52776558133247) ?_
         refine tk 44 (some 353) (tb 66 70368744177663) (hT := HT_) (hB := HW_) hHeld ?_
         refine pu 46 (some 355) (tb 66 140737488355327) ?_
         refine pu 47 (some 356) (tb 66 281474976710655) ?_
         refine pu 48 (some 357) (tb 66 562949953421311) ?_
         refine pu 49 (some 358) (tb 66 1125899906842623) ?_
         refine pu 50 (some 359) (tb 66 2251799813685247) ?_
         refine pure_ (i := 51) (N := some 360) (v := undef) (a' := ?_) (tb 66 4503599627370495) rfl rfl (any_of HT_.out (by kernel_rfl)) (fun _ _ _ h => h) (Or.inr ⟨by rfl, rfl⟩) ?_ ?_
         rotate_left
         ·simp only [Act.put, List.setIfInBounds_toArray, List.set_cons_zero, List.set_cons_succ, i64_w, i32_w]
          rfl
         refine pure_ (i := 52) (N := some 361) (v := undef) (a' := ?_) (tb 66 9007199254740991) rfl rfl (any_of HT_.out (by kernel_rfl)) (fun _ _ _ h => h) (Or.inr ⟨by rfl, rfl⟩) ?_ ?_
         rotate_left
         ·simp only [Act.put, List.setIfInBounds_toArray, List.set_cons_zero, List.set_cons_succ, i64_w, i32_w]
          rfl
         refine pure_ (i := 53) (N := some 362) (v := undef) (a' := ?_) (tb 66 18014398509481983) rfl rfl (any_of HT_.out (by kernel_rfl)) (fun _ _ _ h => h) (Or.inr ⟨by rfl, rfl⟩) ?_ ?_
         rotate_left
         ·simp only [Act.put, List.setIfInBounds_toArray, List.set_cons_zero, List.set_cons_succ, i64_w, i32_w]
          rfl
         refine pu 54 (some 363) (tb 66 36028797018963967) ?_
         refine pu 55 (some 364) (tb 66 72057594037927935) ?_
         refine pu 56 (some 365) (tb 66 144115188075855871) ?_
         refine pu 57 (some 366) (tb 66 288230376151711743) ?_
         refine pu 58 (some 367) (tb 66 576460752303423487) ?_
         refine pure_ (i := 59) (N := some 368) (v := undef) (a' := ?_) (tb 66 1152921504606846975) rfl rfl (any_of HT_.out (by kernel_rfl)) (fun _ _ _ h => h) (Or.inr ⟨by rfl, rfl⟩) ?_ ?_
         rotate_left
         ·simp only [Act.put, List.setIfInBounds_toArray, List.set_cons_zero, List.set_cons_succ, i64_w, i32_w]
          rfl
         refine pure_ (i := 60) (N := some 369) (v := undef) (a' := ?_) (tb 66 2305843009213693951) rfl rfl (any_of HT_.out (by kernel_rfl)) (fun _ _ _ h => h) (Or.inr ⟨by rfl, rfl⟩) ?_ ?_
         rotate_left
         ·simp only [Act.put, List.setIfInBounds_toArray, List.set_cons_zero, List.set_cons_succ, i64_w, i32_w]
          rfl
         refine pure_ (i := 61) (N := some 370) (v := undef) (a' := ?_) (tb 66 4611686018427387903) rfl rfl (any_of HT_.out (by kernel_rfl)) (fun _ _ _ h => h) (Or.inr ⟨by rfl, rfl⟩) ?_ ?_
         rotate_left
         ·simp only [Act.put, List.setIfInBounds_toArray, List.set_cons_zero, List.set_cons_succ, i64_w, i32_w]
          rfl
         refine pure_ (i := 62) (N := some 371) (v := undef) (a' := ?_) (tb 66 9223372036854775807) rfl rfl (any_of HT_.out (by kernel_rfl)) (fun _ _ _ h => h) (Or.inr ⟨by rfl, rfl⟩) ?_ ?_
         rotate_left
         ·simp only [Act.put, List.setIfInBounds_toArray, List.set_cons_zero, List.set_cons_succ, i64_w, i32_w]
          rfl
         refine pure_ (i := 63) (N := some 372) (v := undef) (a' := ?_) (tb 66 18446744073709551615) rfl rfl (any_of HT_.out (by kernel_rfl)) (fun _ _ _ h => h) (Or.inr ⟨by rfl, rfl⟩) ?_ ?_
         rotate_left
         ·simp only [Act.put, List.setIfInBounds_toArray, List.set_cons_zero, List.set_cons_succ, i64_w, i32_w]
          rfl
         refine pu 64 (some 373) (tb 66 36893488147419103231) ?_
         refine pu 65 (some 374) (tb 66 73786976294838206463) ?_
         refine done_ (done_of HT_.out (by kernel_rfl)) ?_
         try go_wp2
         go_meet
         case rel => exact ⟨_, (false), (rs), H', ⟨by have := HJ22.out; first | omega | exact Nat.le_refl _⟩, ⟨pr HO_5⟩, ⟨pr HO_25⟩, ⟨pr HO_29⟩, ⟨pk BK488⟩, ⟨bw⟩⟩
        rw [if_neg c154] at H
        have c154b0 : ((rd t521 (l0_1.length : Int)) == t497) = false := beq_eq_false_iff_ne.mpr c154
        have c154b1 : ((rd t521 (l0_1.length : Int)) != t497) = true := bne_iff_ne.mpr c154
        exact absurd (Option.some.inj H) (by rw [HRT.out]; decide)
       rw [if_neg c151] at H
       have c151b0 : ((rd t521 0) == (ji150)) = false := beq_eq_false_iff_ne.mpr c151
       have c151b1 : ((rd t521 0) != (ji150)) = true := bne_iff_ne.mpr c151
       exact absurd (Option.some.inj H) (by rw [HRT.out]; decide)
      rw [if_neg c147] at H
      have c147b0 : ((t521.length : Int) == (wrap64 ((l0_1.length : Int) + 1))) = false := beq_eq_false_iff_ne.mpr c147
      have c147b1 : ((t521.length : Int) != (wrap64 ((l0_1.length : Int) + 1))) = true := bne_iff_ne.mpr c147
      exact absurd (Option.some.inj H) (by rw [HRT.out]; decide)
     rw [if_neg c125] at H
     have c125b0 : ((t489.length : Int) == t497) = false := beq_eq_false_iff_ne.mpr c125
     have c125b1 : ((t489.length : Int) != t497) = true := bne_iff_ne.mpr c125
     (first | rw [c125b0] | rw [@decide_eq_true _ _ (of_decide_eq_true c125b1)] | rw [@decide_eq_false _ _ (of_decide_eq_false c125b1)] | (simp only [i64_w, i32_w]; rw [c125b0]) | skip)
     exact absurd (Option.some.inj H) (by rw [HRT.out]; decide)
    case rest =>
     clear HC124
     repeat (first|clear c1|clear p5|clear q5|clear hx5|clear qi5|clear p6|clear c12|clear c14|clear c15|clear p54|clear q54|clear hx54|clear qi54|clear p64|clear c125|clear c125b0|clear c125b1|clear c147|clear c147b0|clear c147b1|clear c148|clear c149|clear c151|clear c151b0|clear c151b1|clear c152|clear c153|clear c154|clear c154b0|clear c154b1|clear c156|clear c156b0|clear c156b1|clear hx546_0|clear hx547_0|clear p546|clear p547|clear q546|clear q547)
     obtain ⟨kq, x374_123, rfl, HA, HJ123, HO_5, HO_25, HO_29, BK488, HB⟩ := hcut
     go_step
     exact laws_FnRowsGuessedOfAll.r3 HR0_1 HC0_1 HRT HMM w24 w26 w28 w30 w32 w34 w36 w38 w40 w42 w44 w46 w48 w50 w52 w54 w56 w58 HO491 HO495 HO515 HO519 HO523 HO527 HJ22 hM2_ hJ2_ (by assumption) HA HJ123 HO_5 HO_25 HO_29 BK488 HB
   replace c123 := Bool.eq_false_iff.mpr c123
   subst c123
   rw [if_neg (show ¬ (false = true) by decide)] at H
   have H' := Aside0.mk H
   clear H
   go_wp2
   go_meet
   case rel => exact ⟨_, H', ⟨by have := HJ22.out; first | omega | exact Nat.le_refl _⟩, ⟨bw⟩⟩
  case rest =>
   clear HC122
   repeat (first|clear c1|clear p1|clear q1|clear q2|clear hx2|clear c3|clear p5|clear q5|clear hx5|clear p6|clear c12|clear p19|clear q19|clear c20|clear p20|clear q20|clear hx20|clear c21|clear c22|clear c23|clear c28|clear c29|clear c30|clear p54|clear q54|clear hx54|clear p55|clear q55|clear hx55|clear p56|clear q56|clear hx56|clear p64|clear p197|clear q197|clear p201|clear q201|clear hx201|clear c202|clear c202b0|clear p203|clear q203|clear hx203|clear c204|clear c204b0|clear c204b1|clear c208|clear c208b0|clear c214|clear c214b0|clear c214b1|clear c214b2|clear c216|clear c216b0|clear c217|clear c217b0|clear c218|clear c218b0|clear c219|clear c219b0|clear c220|clear c220b0|clear c221|clear c221b0|clear c222|clear c222b0|clear c226|clear c239|clear hcz177_0|clear hcz177_1|clear hcz179_0|clear hcz179_1|clear hcz181_0|clear hcz181_1|clear hcz190_0|clear hcz190_1|clear hcz190_2|clear hcz190_3|clear hcz207_0|clear hcz207_1|clear hcz223_0|clear hcz223_1|clear hcz227_0|clear hcz227_1|clear hcz240_0|clear hcz240_1|clear hcz242_0|clear hcz242_1|clear hfz177_0|clear hfz177_1|clear hfz179_0|clear hfz179_1|clear hfz181_0|clear hfz181_1|clear hfz190_0|clear hfz190_1|clear hfz190_2|clear hfz190_3|clear hfz207_0|clear hfz207_1|clear hfz223_0|clear hfz223_1|clear hfz227_0|clear hfz227_1|clear hfz240_0|clear hfz240_1|clear hfz242_0|clear hfz242_1|clear hx546_0|clear hx547_0|clear hx548_0|clear hx550_0|clear hx551_0|clear hx551_1|clear hx551_2|clear hx551_3|clear hx565_0|clear hx566_0|clear p546|clear p547|clear p548|clear p550|clear p551|clear p565|clear p566|clear q546|clear q547|clear q548|clear q550|clear q551|clear q565|clear q566)
   obtain ⟨kq, HA, HJ121, HB⟩ := hcut
   go_step
   exact laws_FnRowsGuessedOfAll.r2 HRT HMM HA HJ121 HB

end Go.Proofs.YtfaakdokcldnkaaGreatDoor.PFnRowsGuessedOfAll
