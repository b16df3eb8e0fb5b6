-- Laid by xprint, a program of this session that runs over the kit's print.
import Derived.Test.YtfaakdokcldnkaaGreatDoorPFnRowsGuessedOfAllx23
namespace Go.Proofs.YtfaakdokcldnkaaGreatDoor.PFnRowsGuessedOfAll
open Go.RowKit Go.Proofs.YtfaakdokcldnkaaGreatDoorW.PrintWords Go.Proofs.YtfaakdokcldnkaaGreatDoorW.PrintLast Go.Proofs.YtfaakdokcldnkaaGreatDoorW.PrintMore Go.Proofs.YtfaakdokcldnkaaGreatDoor.Sq
attribute [local go_sem] max2_int min2_int max_two min_two max_three min_three max_four min_four   -- for this text's walks alone
set_option linter.unusedVariables false
set_option linter.unusedSimpArgs false

/-! ### laws_FnRowsGuessedOfAll: its contract -/
set_option maxHeartbeats 80000000 in
set_option maxRecDepth 100000 in
theorem laws_FnRowsGuessedOfAll.f1
 {k : Nat}
 {a0_0 : Int}
 {A0_1 : Option Addr}
 {c0_1 : Nat}
 {l0_1 : List S42}
 {a1 : ByteArray}
 {r : Bool}
 {w : World}
 (HR0_1 : Aside0 (Kd.C k42 w A0_1 (List.length l0_1) l0_1))
 (HC0_1 : Aside0 (List.length l0_1 ≤ c0_1))
 (HRT : Aside0 (r = true))
 {t489 : List ByteArray}
 {t492 : Bool}
 (A5 : Aside0 (impl_Solutions.f k a0_0 l0_1 = some (t489, t492)))
 {t493 : List ByteArray}
 {t496 : Bool}
 {t497 : Int}
 {t498 : Bool}
 {t499 : Int}
 {t500 : Bool}
 {t501 : ByteArray}
 {t502 : Bool}
 {t503 : ByteArray}
 {t504 : Bool}
 {t505 : ByteArray}
 {t506 : Bool}
 {t507 : ByteArray}
 {t508 t509 t510 t511 t512 : Bool}
 {t513 : List Int}
 {t516 : Bool}
 {t517 : List Int}
 {t520 : Bool}
 {t521 : List Int}
 {t524 : Bool}
 {t525 : List Int}
 {t528 : Bool}
 {t529 : Int}
 {t530 : Bool}
 {t531 : Int}
 {t532 : Bool}
 {t533 : ByteArray}
 {t534 : Bool}
 {t535 : ByteArray}
 {t536 : Bool}
 (HC23 : Aside0 ((if (t492 != t496) = true then some false else Option.bind (laws_vTexts.f k t489 t493) fun t537 => if t537 = true then if (t498 != t500) = true then some false else if t497 = t499 then if (t502 != t504) = true then some false else if ByteArray.toList t501 = ByteArray.toList t503 then if (t506 != t508) = true then some false else if ByteArray.toList t505 = ByteArray.toList t507 then if (t510 != t512) = true then some false else if (t509 != t511) = true then some false else if (t516 != t520) = true then some false else Option.bind (laws_vSame.f k t513 t517) fun t538 => if t538 = true then if (t524 != t528) = true then some false else Option.bind (laws_vSame.f k t521 t525) fun t539 => if t539 = true then if (t530 != t532) = true then some false else if t529 = t531 then if (t534 != t536) = true then some false else if ByteArray.toList t533 = ByteArray.toList t535 then Option.bind (impl_IsPuzzle.f k a0_0 l0_1) fun t540 => if (t492 != t540) = true then some false else Option.bind (impl_IsPuzzle.f k a0_0 l0_1) fun t541 => Option.bind (spec_IsPuzzle.f k a0_0 l0_1) fun t542 => if (t541 != t542) = true then some false else if (t498 != t492) = true then some false else if t492 = true then if (t502 != decide (t497 > (0 : Int))) = true then some false else if (t506 != t502) = true then some false else if (t510 != t492) = true then some false else if (t516 != t492) = true then some false else if (t524 != t492) = true then some false else if (t530 != decide (↑(List.length l0_1) > (0 : Int))) = true then some false else j0 k a1 t489 t492 t497 t501 t502 t505 t509 t513 t521 t529 t533 (t534 != t492) a0_0 l0_1 else if (t502 != false) = true then some false else if (t506 != t502) = true then some false else if (t510 != t492) = true then some false else if (t516 != t492) = true then some false else if (t524 != t492) = true then some false else if (t530 != false) = true then some false else j0 k a1 t489 t492 t497 t501 t502 t505 t509 t513 t521 t529 t533 (t534 != t492) a0_0 l0_1 else some false else some false else some false else some false else some false else some false else some false else some false) = some r))
 {gb488 : Nat}
 {v490 v494 v514 v518 v522 v526 : Value}
 {w60 : World}
 (HO491 : Aside0 (Kd.R Kd.string 9 w60 (Array.size w.heap) (fun k => True ∧ some k ≠ Value.ownBlock v494) v490 t489))
 (HO495 : Aside0 (Kd.R Kd.string 9 w60 (Array.size w.heap) (fun k => True ∧ some k ≠ Value.ownBlock v490) v494 t493))
 (HO515 : Aside0 (Kd.R (Kd.int .i64) 3 w60 (Array.size w.heap) (fun k => ((True ∧ some k ≠ Value.ownBlock v518) ∧ some k ≠ Value.ownBlock v522) ∧ some k ≠ Value.ownBlock v526) v514 t513))
 (HO519 : Aside0 (Kd.R (Kd.int .i64) 3 w60 (Array.size w.heap) (fun k => ((True ∧ some k ≠ Value.ownBlock v514) ∧ some k ≠ Value.ownBlock v522) ∧ some k ≠ Value.ownBlock v526) v518 t517))
 (HO523 : Aside0 (Kd.R (Kd.int .i64) 3 w60 (Array.size w.heap) (fun k => ((True ∧ some k ≠ Value.ownBlock v514) ∧ some k ≠ Value.ownBlock v518) ∧ some k ≠ Value.ownBlock v526) v522 t521))
 (HO527 : Aside0 (Kd.R (Kd.int .i64) 3 w60 (Array.size w.heap) (fun k => ((True ∧ some k ≠ Value.ownBlock v514) ∧ some k ≠ Value.ownBlock v518) ∧ some k ≠ Value.ownBlock v522) v526 t525))
 (BK488 : Aside0 (w60.heap[gb488]? = some (.cells #[.int .i64 a0_0, .slice A0_1 (List.length l0_1) c0_1] 24)))
 (HB : Aside0 (Below (Array.size w.heap) w w60))
 {x1_ J1_ K1_ : Act → World → Prop}
 (hJ1_ : ∀ (a' : Act) (w' : World), (∃ u98 u103 u107 u108 u112 u113 u118 u123 u128 u133 u138 u140 u141 u142 u143 u144 u145 u146 u147 u148 u149 u150 u151 u152 u153 u154 u155 u156 u157 u158 u159 u160 u161 u162 u163 u164 u165 u166 u167 u168 u169 u170 u171 u172 u173 u174 u175 u176 u177 u178 u179 u180 u181 u182 u183 u184 u185 u186 u187 u188 u189 u190 u191 u192 u193 u194 u195 u196 u197 u198 u199 u200 u201 u202 u203 u204 u205 u206 u207 u208 u209 u210 u211 u212 u213 u214 u215 u216 u217 u218 u219 u220 u221 u222 u223 u224 u225 u226 u227 u228 u229 u230 u231 u232 u233 u234 u235 u236 u237 u238 u239 u240 u241 u242 u243 u244 u245 u246 u247 u248 u249 u250 u251 u252 u253 u254 u255 u256 u257 u258 u259 u260 u261 u262 u263 u264 u265 u266 u267 u268 u269 u270 u271 u272 u273 u274 u275 u276 u277 u278 u279 u280 u281 u282 u283 u284 u285 u286 u287 u288 u289 u290 u291 u292 u293 u294 u295 u296 u297 u298 u299 u300 u301 u302 u303 u304 u305 u306 u307, (∃ kq x307_22, u307 = .bool x307_22 ∧ Aside0 (j0 kq a1 t489 t492 t497 t501 t502 t505 t509 t513 t521 t529 t533 x307_22 a0_0 l0_1 = some r) ∧ Aside0 (kq ≤ k) ∧ Aside0 (Kd.R Kd.string 9 w' (Array.size w.heap) (fun x => True) v490 t489) ∧ Aside0 (Kd.R (Kd.int .i64) 3 w' (Array.size w.heap) (fun k_ => some k_ ≠ Value.ownBlock v522) v514 t513) ∧ Aside0 (Kd.R (Kd.int .i64) 3 w' (Array.size w.heap) (fun k_ => some k_ ≠ Value.ownBlock v514) v522 t521) ∧ Aside0 (w'.heap[gb488]? = some (.cells #[.int .i64 a0_0, .slice A0_1 (List.length l0_1) c0_1] 24)) ∧ Aside0 (Below (Array.size w.heap) w w')) ∧ a' = { tmps := #[.agg #[.int .i64 a0_0, .slice A0_1 (List.length l0_1) c0_1], .string a1, .pointer (some { block := gb488, off := 0 }), undef, .bool false, v490, .bool t492, v494, .bool t496, .int .i64 t497, .bool t498, .int .i64 t499, .bool t500, .string t501, .bool t502, .string t503, .bool t504, .string t505, .bool t506, .string t507, .bool t508, .bool t509, .bool t510, .bool t511, .bool t512, v514, .bool t516, v518, .bool t520, v522, .bool t524, v526, .bool t528, .int .i64 t529, .bool t530, .int .i64 t531, .bool t532, .string t533, .bool t534, .string t535, .bool t536, undef, undef, undef, undef, undef, undef, undef, undef, undef, undef, undef, undef, undef, undef, undef, undef, undef, undef, undef, undef, .string a1, .int .i64 ↑(ByteArray.size a1), .bool false, Value.tuple #[v490, .bool t492], .agg #[.int .i64 a0_0, .slice A0_1 (List.length l0_1) c0_1], Value.tuple #[v490, .bool t492], v490, .bool t492, Value.tuple #[v494, .bool t496], .agg #[.int .i64 a0_0, .slice A0_1 (List.length l0_1) c0_1], Value.tuple #[v494, .bool t496], v494, .bool t496, Value.tuple #[.int .i64 t497, .bool t498], .agg #[.int .i64 a0_0, .slice A0_1 (List.length l0_1) c0_1], Value.tuple #[.int .i64 t497, .bool t498], .int .i64 t497, .bool t498, Value.tuple #[.int .i64 t499, .bool t500], .agg #[.int .i64 a0_0, .slice A0_1 (List.length l0_1) c0_1], Value.tuple #[.int .i64 t499, .bool t500], .int .i64 t499, .bool t500, Value.tuple #[.string t501, .bool t502], .agg #[.int .i64 a0_0, .slice A0_1 (List.length l0_1) c0_1], Value.tuple #[.string t501, .bool t502], .string t501, .bool t502, Value.tuple #[.string t503, .bool t504], .agg #[.int .i64 a0_0, .slice A0_1 (List.length l0_1) c0_1], Value.tuple #[.string t503, .bool t504], .string t503, .bool t504, Value.tuple #[.string t505, .bool t506], .agg #[.int .i64 a0_0, .slice A0_1 (List.length l0_1) c0_1], Value.tuple #[.string t505, .bool t506], .string t505, u98, Value.tuple #[.string t507, .bool t508], .agg #[.int .i64 a0_0, .slice A0_1 (List.length l0_1) c0_1], Value.tuple #[.string t507, .bool t508], .string t507, u103, Value.tuple #[.bool t509, .bool t510], .agg #[.int .i64 a0_0, .slice A0_1 (List.length l0_1) c0_1], Value.tuple #[.bool t509, .bool t510], u107, u108, Value.tuple #[.bool t511, .bool t512], .agg #[.int .i64 a0_0, .slice A0_1 (List.length l0_1) c0_1], Value.tuple #[.bool t511, .bool t512], u112, u113, Value.tuple #[v514, .bool t516], .agg #[.int .i64 a0_0, .slice A0_1 (List.length l0_1) c0_1], Value.tuple #[v514, .bool t516], v514, u118, Value.tuple #[v518, .bool t520], .agg #[.int .i64 a0_0, .slice A0_1 (List.length l0_1) c0_1], Value.tuple #[v518, .bool t520], v518, u123, Value.tuple #[v522, .bool t524], .agg #[.int .i64 a0_0, .slice A0_1 (List.length l0_1) c0_1], Value.tuple #[v522, .bool t524], v522, u128, Value.tuple #[v526, .bool t528], .agg #[.int .i64 a0_0, .slice A0_1 (List.length l0_1) c0_1], Value.tuple #[v526, .bool t528], v526, u133, Value.tuple #[.int .i64 t529, .bool t530], .agg #[.int .i64 a0_0, .slice A0_1 (List.length l0_1) c0_1], Value.tuple #[.int .i64 t529, .bool t530], .int .i64 t529, u138, Value.tuple #[.int .i64 t531, .bool t532], u140, u141, u142, u143, u144, u145, u146, u147, u148, u149, u150, u151, u152, u153, u154, u155, u156, u157, u158, u159, u160, u161, u162, u163, u164, u165, u166, u167, u168, u169, u170, u171, u172, u173, u174, u175, u176, u177, u178, u179, u180, u181, u182, u183, u184, u185, u186, u187, u188, u189, u190, u191, u192, u193, u194, u195, u196, u197, u198, u199, u200, u201, u202, u203, u204, u205, u206, u207, u208, u209, u210, u211, u212, u213, u214, u215, u216, u217, u218, u219, u220, u221, u222, u223, u224, u225, u226, u227, u228, u229, u230, u231, u232, u233, u234, u235, u236, u237, u238, u239, u240, u241, u242, u243, u244, u245, u246, u247, u248, u249, u250, u251, u252, u253, u254, u255, u256, u257, u258, u259, u260, u261, u262, u263, u264, u265, u266, u267, u268, u269, u270, u271, u272, u273, u274, u275, u276, u277, u278, u279, u280, u281, u282, u283, u284, u285, u286, u287, u288, u289, u290, u291, u292, u293, u294, u295, u296, u297, u298, u299, u300, u301, u302, u303, u304, u305, u306, u307, undef, undef, undef, undef, undef, undef, undef, undef, undef, undef, undef, undef, undef, undef, undef, undef, undef, undef, undef, undef, undef, undef, undef, undef, undef, undef, undef, undef, undef, undef, undef, undef, undef, undef, undef, undef, undef, undef, undef, undef, undef, undef, undef, undef, undef, undef, undef, undef, undef, undef, undef, undef, undef, undef, undef, undef, undef, undef, undef, undef, undef, undef, undef, undef, undef, undef, undef, undef, undef, undef, undef, undef, undef, undef, undef, undef, undef, undef, undef, undef, undef, undef, undef, undef, undef, undef, undef, undef, undef, undef, undef, undef, undef, undef, undef, undef, undef, undef, undef, undef, undef, undef, undef, undef, undef, undef, undef, undef, undef, undef, undef, undef, undef, undef, undef, undef, undef, undef, undef, undef, undef, undef, undef, undef, undef, undef, undef, undef, undef, undef, undef, undef, undef, undef, undef, undef, undef, undef, undef, undef, undef, undef, undef, undef, undef, undef, undef, undef, undef, undef, undef, undef, undef, undef, undef, undef, undef, undef, undef, undef, undef, undef, undef, undef, undef, undef, undef, undef, undef, undef, undef, undef, undef, undef, undef, undef, undef, undef, undef, undef, undef, undef, undef, undef, undef, undef, undef, undef, undef, undef, undef, undef, undef, undef, undef, undef, undef, undef, undef, undef, undef, undef, undef, undef, undef, undef, undef, undef, undef, undef, undef, undef, undef, undef, undef, undef, undef, undef, undef, undef, undef, undef, undef, undef, undef, undef, undef, undef, undef, undef, undef, undef, undef, undef, undef, undef], defers := [] }) → J1_ a' w')
 (hM1_ : ∀ (a' : Act) (w' : World), Met J1_ a' w' → K1_ a' w') :
 Code.wp Tryz.prog (cdd Tryz.f3 [1, 1, 1, 1, 1, 1, 1, 1, 1, 1, 1, 1, 1, 1, 1, 1, 1, 1, 1, 1, 0, 0]) (Exit.then K1_ (Exit.then x1_ (bodyPost Tryz.prog Tryz.f3 fun e w' => e = Ending.returned (.bool r) ∧ Below (Array.size w.heap) w w'))) { tmps := #[.agg #[.int .i64 a0_0, .slice A0_1 (List.length l0_1) c0_1], .string a1, .pointer (some { block := gb488, off := 0 }), undef, .bool false, v490, .bool t492, v494, .bool t496, .int .i64 t497, .bool t498, .int .i64 t499, .bool t500, .string t501, .bool t502, .string t503, .bool t504, .string t505, .bool t506, .string t507, .bool t508, .bool t509, .bool t510, .bool t511, .bool t512, v514, .bool t516, v518, .bool t520, v522, .bool t524, v526, .bool t528, .int .i64 t529, .bool t530, .int .i64 t531, .bool t532, .string t533, .bool t534, .string t535, .bool t536, undef, undef, undef, undef, undef, undef, undef, undef, undef, undef, undef, undef, undef, undef, undef, undef, undef, undef, undef, undef, .string a1, .int .i64 ↑(ByteArray.size a1), .bool false, Value.tuple #[v490, .bool t492], .agg #[.int .i64 a0_0, .slice A0_1 (List.length l0_1) c0_1], Value.tuple #[v490, .bool t492], v490, .bool t492, Value.tuple #[v494, .bool t496], .agg #[.int .i64 a0_0, .slice A0_1 (List.length l0_1) c0_1], Value.tuple #[v494, .bool t496], v494, .bool t496, Value.tuple #[.int .i64 t497, .bool t498], .agg #[.int .i64 a0_0, .slice A0_1 (List.length l0_1) c0_1], Value.tuple #[.int .i64 t497, .bool t498], .int .i64 t497, .bool t498, Value.tuple #[.int .i64 t499, .bool t500], .agg #[.int .i64 a0_0, .slice A0_1 (List.length l0_1) c0_1], Value.tuple #[.int .i64 t499, .bool t500], .int .i64 t499, .bool t500, Value.tuple #[.string t501, .bool t502], .agg #[.int .i64 a0_0, .slice A0_1 (List.length l0_1) c0_1], Value.tuple #[.string t501, .bool t502], .string t501, .bool t502, Value.tuple #[.string t503, .bool t504], .agg #[.int .i64 a0_0, .slice A0_1 (List.length l0_1) c0_1], Value.tuple #[.string t503, .bool t504], .string t503, .bool t504, Value.tuple #[.string t505, .bool t506], .agg #[.int .i64 a0_0, .slice A0_1 (List.length l0_1) c0_1], Value.tuple #[.string t505, .bool t506], .string t505, .bool t506, Value.tuple #[.string t507, .bool t508], .agg #[.int .i64 a0_0, .slice A0_1 (List.length l0_1) c0_1], Value.tuple #[.string t507, .bool t508], .string t507, .bool t508, Value.tuple #[.bool t509, .bool t510], .agg #[.int .i64 a0_0, .slice A0_1 (List.length l0_1) c0_1], Value.tuple #[.bool t509, .bool t510], .bool t509, .bool t510, Value.tuple #[.bool t511, .bool t512], .agg #[.int .i64 a0_0, .slice A0_1 (List.length l0_1) c0_1], Value.tuple #[.bool t511, .bool t512], .bool t511, .bool t512, Value.tuple #[v514, .bool t516], .agg #[.int .i64 a0_0, .slice A0_1 (List.length l0_1) c0_1], Value.tuple #[v514, .bool t516], v514, .bool t516, Value.tuple #[v518, .bool t520], .agg #[.int .i64 a0_0, .slice A0_1 (List.length l0_1) c0_1], Value.tuple #[v518, .bool t520], v518, .bool t520, Value.tuple #[v522, .bool t524], .agg #[.int .i64 a0_0, .slice A0_1 (List.length l0_1) c0_1], Value.tuple #[v522, .bool t524], v522, .bool t524, Value.tuple #[v526, .bool t528], .agg #[.int .i64 a0_0, .slice A0_1 (List.length l0_1) c0_1], Value.tuple #[v526, .bool t528], v526, .bool t528, Value.tuple #[.int .i64 t529, .bool t530], .agg #[.int .i64 a0_0, .slice A0_1 (List.length l0_1) c0_1], Value.tuple #[.int .i64 t529, .bool t530], .int .i64 t529, .bool t530, Value.tuple #[.int .i64 t531, .bool t532], .agg #[.int .i64 a0_0, .slice A0_1 (List.length l0_1) c0_1], Value.tuple #[.int .i64 t531, .bool t532], .int .i64 t531, .bool t532, Value.tuple #[.string t533, .bool t534], .agg #[.int .i64 a0_0, .slice A0_1 (List.length l0_1) c0_1], Value.tuple #[.string t533, .bool t534], .string t533, .bool t534, Value.tuple #[.string t535, .bool t536], .agg #[.int .i64 a0_0, .slice A0_1 (List.length l0_1) c0_1], Value.tuple #[.string t535, .bool t536], .string t535, .bool t536, undef, undef, undef, undef, undef, undef, undef, undef, undef, undef, undef, undef, undef, undef, undef, undef, undef, undef, undef, undef, undef, undef, undef, undef, undef, undef, undef, undef, undef, undef, undef, undef, undef, undef, undef, undef, undef, undef, undef, undef, undef, undef, undef, undef, undef, undef, undef, undef, undef, undef, undef, undef, undef, undef, undef, undef, undef, undef, undef, undef, undef, undef, undef, undef, undef, undef, undef, undef, undef, undef, undef, undef, undef, undef, undef, undef, undef, undef, undef, undef, undef, undef, undef, undef, undef, undef, undef, undef, undef, undef, undef, undef, undef, undef, undef, undef, undef, undef, undef, undef, undef, undef, undef, undef, undef, undef, undef, undef, undef, undef, undef, undef, undef, undef, undef, undef, undef, undef, undef, undef, undef, undef, undef, undef, undef, undef, undef, undef, undef, undef, undef, undef, undef, undef, undef, undef, undef, undef, undef, undef, undef, undef, undef, undef, undef, undef, undef, undef, undef, undef, undef, undef, undef, undef, undef, undef, undef, undef, undef, undef, undef, undef, undef, undef, undef, undef, undef, undef, undef, undef, undef, undef, undef, undef, undef, undef, undef, undef, undef, undef, undef, undef, undef, undef, undef, undef, undef, undef, undef, undef, undef, undef, undef, undef, undef, undef, undef, undef, undef, undef, undef, undef, undef, undef, undef, undef, undef, undef, undef, undef, undef, undef, undef, undef, undef, undef, undef, undef, undef, undef, undef, undef, undef, undef, undef, undef, undef, undef, undef, undef, undef, undef, undef, undef, undef, undef, undef, undef, undef, undef, undef, undef, undef, undef, undef, undef, undef, undef, undef, undef, undef, undef, undef, undef, undef, undef, undef, undef, undef, undef, undef, undef, undef, undef, undef, undef, undef, undef, undef, undef, undef, undef, undef, undef, undef, undef, undef, undef, undef, undef, undef, undef, undef, undef, undef, undef, undef, undef, undef, undef, undef, undef, undef, undef, undef, undef, undef, undef, undef, undef, undef, undef, undef, undef, undef, undef, undef, undef, undef, undef, undef, undef, undef, undef, undef, undef, undef, undef, undef, undef, undef, undef, undef, undef, undef, undef, undef, undef, undef, undef, undef, undef, undef, undef, undef, undef, undef, undef, undef, undef, undef, undef, undef, undef, undef, undef, undef, undef, undef, undef, undef, undef, undef, undef, undef, undef, undef, undef, undef, undef, undef, undef, undef, undef, undef, undef, undef, undef, undef, undef, undef, undef, undef, undef, undef, undef, undef, undef, undef, undef, undef, undef, undef, undef, undef, undef, undef, undef, undef, undef], defers := [] } w60 := by
 conv in cdd _ _ => whnf
 try dsimp only
 try dsimp only at hJ1_
 have H := HC23.out
 clear HC23
 by_cases c61 : (t492 != t496) = true
 ·rw [if_pos c61] at H
  have c61b0 : (t492 != t496) = true := c61
  (try (have c61b1 : decide (t492 = t496) = false := by simpa using c61))
  (try (have c61b2 : (t492 == t496) = false := by simpa using c61))
  (try (have c61b3 : ¬ (t492 = t496) := by simpa using c61))
  clear c61
  (first | rw [c61b0] | rw [@decide_eq_true _ _ (of_decide_eq_true c61b1)] | rw [@decide_eq_false _ _ (of_decide_eq_false c61b1)] | (simp only [i64_w, i32_w]; rw [c61b0]) | skip)
  exact absurd (Option.some.inj H) (by rw [HRT.out]; decide)
 rw [if_neg c61] at H
 have c61b0 : (t492 != t496) = false := by simpa using c61
 (try (have c61b1 : decide (t492 = t496) = true := by simpa using c61))
 (try (have c61b2 : (t492 == t496) = true := by simpa using c61))
 clear c61
 (first | rw [c61b0] | rw [@decide_eq_true _ _ (of_decide_eq_true c61b1)] | rw [@decide_eq_false _ _ (of_decide_eq_false c61b1)] | (simp only [i64_w, i32_w]; rw [c61b0]) | skip)
 replace H := ob H
 obtain ⟨t537, A62, H⟩ := H
 (try dsimp only at H)
 replace H := ofr HRT H
 obtain ⟨c63, H⟩ := H
 subst c63
 by_cases c64 : (t498 != t500) = true
 ·rw [if_pos c64] at H
  have c64b0 : (t498 != t500) = true := c64
  (try (have c64b1 : decide (t498 = t500) = false := by simpa using c64))
  (try (have c64b2 : (t498 == t500) = false := by simpa using c64))
  (try (have c64b3 : ¬ (t498 = t500) := by simpa using c64))
  clear c64
  exact absurd (Option.some.inj H) (by rw [HRT.out]; decide)
 rw [if_neg c64] at H
 have c64b0 : (t498 != t500) = false := by simpa using c64
 (try (have c64b1 : decide (t498 = t500) = true := by simpa using c64))
 (try (have c64b2 : (t498 == t500) = true := by simpa using c64))
 clear c64
 by_cases c65 : t497 = t499
 ·rw [if_pos c65] at H
  have c65b0 : (t497 == t499) = true := beq_iff_eq.mpr c65
  have c65b1 : (t497 != t499) = false := bne_eq_false_iff_eq.mpr c65
  clear c65
  by_cases c66 : (t502 != t504) = true
  ·rw [if_pos c66] at H
   have c66b0 : (t502 != t504) = true := c66
   (try (have c66b1 : decide (t502 = t504) = false := by simpa using c66))
   (try (have c66b2 : (t502 == t504) = false := by simpa using c66))
   (try (have c66b3 : ¬ (t502 = t504) := by simpa using c66))
   clear c66
   exact absurd (Option.some.inj H) (by rw [HRT.out]; decide)
  rw [if_neg c66] at H
  have c66b0 : (t502 != t504) = false := by simpa using c66
  (try (have c66b1 : decide (t502 = t504) = true := by simpa using c66))
  (try (have c66b2 : (t502 == t504) = true := by simpa using c66))
  clear c66
  by_cases c67 : t501.toList = t503.toList
  ·rw [if_pos c67] at H
   have c67b0 : (t501.toList == t503.toList) = true := beq_iff_eq.mpr c67
   have c67b1 : (t501.toList != t503.toList) = false := bne_eq_false_iff_eq.mpr c67
   clear c67
   by_cases c68 : (t506 != t508) = true
   ·rw [if_pos c68] at H
    have c68b0 : (t506 != t508) = true := c68
    (try (have c68b1 : decide (t506 = t508) = false := by simpa using c68))
    (try (have c68b2 : (t506 == t508) = false := by simpa using c68))
    (try (have c68b3 : ¬ (t506 = t508) := by simpa using c68))
    clear c68
    exact absurd (Option.some.inj H) (by rw [HRT.out]; decide)
   rw [if_neg c68] at H
   have c68b0 : (t506 != t508) = false := by simpa using c68
   (try (have c68b1 : decide (t506 = t508) = true := by simpa using c68))
   (try (have c68b2 : (t506 == t508) = true := by simpa using c68))
   clear c68
   by_cases c69 : t505.toList = t507.toList
   ·rw [if_pos c69] at H
    have c69b0 : (t505.toList == t507.toList) = true := beq_iff_eq.mpr c69
    have c69b1 : (t505.toList != t507.toList) = false := bne_eq_false_iff_eq.mpr c69
    clear c69
    by_cases c70 : (t510 != t512) = true
    ·rw [if_pos c70] at H
     have c70b0 : (t510 != t512) = true := c70
     (try (have c70b1 : decide (t510 = t512) = false := by simpa using c70))
     (try (have c70b2 : (t510 == t512) = false := by simpa using c70))
     (try (have c70b3 : ¬ (t510 = t512) := by simpa using c70))
     clear c70
     exact absurd (Option.some.inj H) (by rw [HRT.out]; decide)
    rw [if_neg c70] at H
    have c70b0 : (t510 != t512) = false := by simpa using c70
    (try (have c70b1 : decide (t510 = t512) = true := by simpa using c70))
    (try (have c70b2 : (t510 == t512) = true := by simpa using c70))
    clear c70
    by_cases c71 : (t509 != t511) = true
    ·rw [if_pos c71] at H
     have c71b0 : (t509 != t511) = true := c71
     (try (have c71b1 : decide (t509 = t511) = false := by simpa using c71))
     (try (have c71b2 : (t509 == t511) = false := by simpa using c71))
     (try (have c71b3 : ¬ (t509 = t511) := by simpa using c71))
     clear c71
     exact absurd (Option.some.inj H) (by rw [HRT.out]; decide)
    rw [if_neg c71] at H
    have c71b0 : (t509 != t511) = false := by simpa using c71
    (try (have c71b1 : decide (t509 = t511) = true := by simpa using c71))
    (try (have c71b2 : (t509 == t511) = true := by simpa using c71))
    clear c71
    by_cases c72 : (t516 != t520) = true
    ·rw [if_pos c72] at H
     have c72b0 : (t516 != t520) = true := c72
     (try (have c72b1 : decide (t516 = t520) = false := by simpa using c72))
     (try (have c72b2 : (t516 == t520) = false := by simpa using c72))
     (try (have c72b3 : ¬ (t516 = t520) := by simpa using c72))
     clear c72
     exact absurd (Option.some.inj H) (by rw [HRT.out]; decide)
    rw [if_neg c72] at H
    have c72b0 : (t516 != t520) = false := by simpa using c72
    (try (have c72b1 : decide (t516 = t520) = true := by simpa using c72))
    (try (have c72b2 : (t516 == t520) = true := by simpa using c72))
    clear c72
    replace H := ob H
    obtain ⟨t538, A73, H⟩ := H
    (try dsimp only at H)
    replace H := ofr HRT H
    obtain ⟨c74, H⟩ := H
    subst c74
    by_cases c75 : (t524 != t528) = true
    ·rw [if_pos c75] at H
     have c75b0 : (t524 != t528) = true := c75
     (try (have c75b1 : decide (t524 = t528) = false := by simpa using c75))
     (try (have c75b2 : (t524 == t528) = false := by simpa using c75))
     (try (have c75b3 : ¬ (t524 = t528) := by simpa using c75))
     clear c75
     exact absurd (Option.some.inj H) (by rw [HRT.out]; decide)
    rw [if_neg c75] at H
    have c75b0 : (t524 != t528) = false := by simpa using c75
    (try (have c75b1 : decide (t524 = t528) = true := by simpa using c75))
    (try (have c75b2 : (t524 == t528) = true := by simpa using c75))
    clear c75
    replace H := ob H
    obtain ⟨t539, A76, H⟩ := H
    (try dsimp only at H)
    replace H := ofr HRT H
    obtain ⟨c77, H⟩ := H
    subst c77
    by_cases c78 : (t530 != t532) = true
    ·rw [if_pos c78] at H
     have c78b0 : (t530 != t532) = true := c78
     (try (have c78b1 : decide (t530 = t532) = false := by simpa using c78))
     (try (have c78b2 : (t530 == t532) = false := by simpa using c78))
     (try (have c78b3 : ¬ (t530 = t532) := by simpa using c78))
     clear c78
     exact absurd (Option.some.inj H) (by rw [HRT.out]; decide)
    rw [if_neg c78] at H
    have c78b0 : (t530 != t532) = false := by simpa using c78
    (try (have c78b1 : decide (t530 = t532) = true := by simpa using c78))
    (try (have c78b2 : (t530 == t532) = true := by simpa using c78))
    clear c78
    by_cases c79 : t529 = t531
    ·rw [if_pos c79] at H
     have c79b0 : (t529 == t531) = true := beq_iff_eq.mpr c79
     have c79b1 : (t529 != t531) = false := bne_eq_false_iff_eq.mpr c79
     clear c79
     by_cases c80 : (t534 != t536) = true
     ·rw [if_pos c80] at H
      have c80b0 : (t534 != t536) = true := c80
      (try (have c80b1 : decide (t534 = t536) = false := by simpa using c80))
      (try (have c80b2 : (t534 == t536) = false := by simpa using c80))
      (try (have c80b3 : ¬ (t534 = t536) := by simpa using c80))
      clear c80
      exact absurd (Option.some.inj H) (by rw [HRT.out]; decide)
     rw [if_neg c80] at H
     have c80b0 : (t534 != t536) = false := by simpa using c80
     (try (have c80b1 : decide (t534 = t536) = true := by simpa using c80))
     (try (have c80b2 : (t534 == t536) = true := by simpa using c80))
     clear c80
     by_cases c81 : t533.toList = t535.toList
     ·rw [if_pos c81] at H
      have c81b0 : (t533.toList == t535.toList) = true := beq_iff_eq.mpr c81
      have c81b1 : (t533.toList != t535.toList) = false := bne_eq_false_iff_eq.mpr c81
      clear c81
      replace H := ob H
      obtain ⟨t540, A82, H⟩ := H
      (try dsimp only at H)
      by_cases c83 : (t492 != t540) = true
      ·rw [if_pos c83] at H
       have c83b0 : (t492 != t540) = true := c83
       (try (have c83b1 : decide (t492 = t540) = false := by simpa using c83))
       (try (have c83b2 : (t492 == t540) = false := by simpa using c83))
       (try (have c83b3 : ¬ (t492 = t540) := by simpa using c83))
       clear c83
       exact absurd (Option.some.inj H) (by rw [HRT.out]; decide)
      rw [if_neg c83] at H
      have c83b0 : (t492 != t540) = false := by simpa using c83
      (try (have c83b1 : decide (t492 = t540) = true := by simpa using c83))
      (try (have c83b2 : (t492 == t540) = true := by simpa using c83))
      clear c83
      replace H := ob H
      obtain ⟨t541, A84, H⟩ := H
      (try dsimp only at H)
      replace H := ob H
      obtain ⟨t542, A85, H⟩ := H
      (try dsimp only at H)
      by_cases c86 : (t541 != t542) = true
      ·rw [if_pos c86] at H
       have c86b0 : (t541 != t542) = true := c86
       (try (have c86b1 : decide (t541 = t542) = false := by simpa using c86))
       (try (have c86b2 : (t541 == t542) = false := by simpa using c86))
       (try (have c86b3 : ¬ (t541 = t542) := by simpa using c86))
       clear c86
       exact absurd (Option.some.inj H) (by rw [HRT.out]; decide)
      rw [if_neg c86] at H
      have c86b0 : (t541 != t542) = false := by simpa using c86
      (try (have c86b1 : decide (t541 = t542) = true := by simpa using c86))
      (try (have c86b2 : (t541 == t542) = true := by simpa using c86))
      clear c86
      by_cases c87 : (t498 != t492) = true
      ·rw [if_pos c87] at H
       have c87b0 : (t498 != t492) = true := c87
       (try (have c87b1 : decide (t498 = t492) = false := by simpa using c87))
       (try (have c87b2 : (t498 == t492) = false := by simpa using c87))
       (try (have c87b3 : ¬ (t498 = t492) := by simpa using c87))
       clear c87
       exact absurd (Option.some.inj H) (by rw [HRT.out]; decide)
      rw [if_neg c87] at H
      have c87b0 : (t498 != t492) = false := by simpa using c87
      (try (have c87b1 : decide (t498 = t492) = true := by simpa using c87))
      (try (have c87b2 : (t498 == t492) = true := by simpa using c87))
      clear c87
      by_cases c88 : t492 = true
      ·subst c88
       rw [if_pos rfl] at H
       by_cases c89 : (t502 != (decide (t497 > 0))) = true
       ·rw [if_pos c89] at H
        have c89b0 : (t502 != (decide (t497 > 0))) = true := c89
        (try (have c89b1 : decide (t502 = (decide (t497 > 0))) = false := by simpa using c89))
        (try (have c89b2 : (t502 == (decide (t497 > 0))) = false := by simpa using c89))
        (try (have c89b3 : ¬ (t502 = (decide (t497 > 0))) := by simpa using c89))
        clear c89
        exact absurd (Option.some.inj H) (by rw [HRT.out]; decide)
       rw [if_neg c89] at H
       have c89b0 : (t502 != (decide (t497 > 0))) = false := by simpa using c89
       (try (have c89b1 : decide (t502 = (decide (t497 > 0))) = true := by simpa using c89))
       (try (have c89b2 : (t502 == (decide (t497 > 0))) = true := by simpa using c89))
       clear c89
       by_cases c90 : (t506 != t502) = true
       ·rw [if_pos c90] at H
        have c90b0 : (t506 != t502) = true := c90
        (try (have c90b1 : decide (t506 = t502) = false := by simpa using c90))
        (try (have c90b2 : (t506 == t502) = false := by simpa using c90))
        (try (have c90b3 : ¬ (t506 = t502) := by simpa using c90))
        clear c90
        exact absurd (Option.some.inj H) (by rw [HRT.out]; decide)
       rw [if_neg c90] at H
       have c90b0 : (t506 != t502) = false := by simpa using c90
       (try (have c90b1 : decide (t506 = t502) = true := by simpa using c90))
       (try (have c90b2 : (t506 == t502) = true := by simpa using c90))
       clear c90
       by_cases c91 : (t510 != true) = true
       ·rw [if_pos c91] at H
        have c91b0 : (t510 != true) = true := c91
        (try (have c91b1 : decide (t510 = true) = false := by simpa using c91))
        (try (have c91b2 : (t510 == true) = false := by simpa using c91))
        (try (have c91b3 : ¬ (t510 = true) := by simpa using c91))
        clear c91
        exact absurd (Option.some.inj H) (by rw [HRT.out]; decide)
       rw [if_neg c91] at H
       have c91b0 : (t510 != true) = false := by simpa using c91
       (try (have c91b1 : decide (t510 = true) = true := by simpa using c91))
       (try (have c91b2 : (t510 == true) = true := by simpa using c91))
       clear c91
       by_cases c92 : (t516 != true) = true
       ·rw [if_pos c92] at H
        have c92b0 : (t516 != true) = true := c92
        (try (have c92b1 : decide (t516 = true) = false := by simpa using c92))
        (try (have c92b2 : (t516 == true) = false := by simpa using c92))
        (try (have c92b3 : ¬ (t516 = true) := by simpa using c92))
        clear c92
        exact absurd (Option.some.inj H) (by rw [HRT.out]; decide)
       rw [if_neg c92] at H
       have c92b0 : (t516 != true) = false := by simpa using c92
       (try (have c92b1 : decide (t516 = true) = true := by simpa using c92))
       (try (have c92b2 : (t516 == true) = true := by simpa using c92))
       clear c92
       by_cases c93 : (t524 != true) = true
       ·rw [if_pos c93] at H
        have c93b0 : (t524 != true) = true := c93
        (try (have c93b1 : decide (t524 = true) = false := by simpa using c93))
        (try (have c93b2 : (t524 == true) = false := by simpa using c93))
        (try (have c93b3 : ¬ (t524 = true) := by simpa using c93))
        clear c93
        exact absurd (Option.some.inj H) (by rw [HRT.out]; decide)
       rw [if_neg c93] at H
       have c93b0 : (t524 != true) = false := by simpa using c93
       (try (have c93b1 : decide (t524 = true) = true := by simpa using c93))
       (try (have c93b2 : (t524 == true) = true := by simpa using c93))
       clear c93
       by_cases c94 : (t530 != (decide ((l0_1.length : Int) > 0))) = true
       ·rw [if_pos c94] at H
        have c94b0 : (t530 != (decide ((l0_1.length : Int) > 0))) = true := c94
        (try (have c94b1 : (t530 != (decide (0 < l0_1.length))) = true := by simpa using c94))
        (try (have c94b2 : decide (t530 = (decide (0 < l0_1.length))) = false := by simpa using c94))
        (try (have c94b3 : (t530 = (decide (0 < l0_1.length))) = False := eq_false (by simpa using c94)))
        (try (have c94b4 : decide (t530 = (decide ((l0_1.length : Int) > 0))) = false := by simpa using c94))
        (try (have c94b5 : (t530 == (decide ((l0_1.length : Int) > 0))) = false := by simpa using c94))
        (try (have c94b6 : ¬ (t530 = (decide ((l0_1.length : Int) > 0))) := by simpa using c94))
        clear c94
        exact absurd (Option.some.inj H) (by rw [HRT.out]; decide)
       rw [if_neg c94] at H
       have c94b0 : (t530 != (decide ((l0_1.length : Int) > 0))) = false := by simpa using c94
       (try (have c94b1 : (t530 != (decide (0 < l0_1.length))) = false := by simpa using c94))
       (try (have c94b2 : decide (t530 = (decide (0 < l0_1.length))) = true := by simpa using c94))
       (try (have c94b3 : (t530 = (decide (0 < l0_1.length))) = True := eq_true (by simpa using c94)))
       (try (have c94b4 : decide (t530 = (decide ((l0_1.length : Int) > 0))) = true := by simpa using c94))
       (try (have c94b5 : (t530 == (decide ((l0_1.length : Int) > 0))) = true := by simpa using c94))
       have c94b6 : (t530 == (decide (0 < l0_1.length))) = true := by simpa using c94
       clear c94
       have H' := Aside0.mk H
       clear H
       try go_upto_region 21 with (fail)
       replace HO491 := Aside0.mk (Kd.R_drew HO491.out)
       replace HO495 := Aside0.mk (Kd.R_drew HO495.out)
       replace HO515 := Aside0.mk (Kd.R_drew HO515.out)
       replace HO519 := Aside0.mk (Kd.R_drew HO519.out)
       replace HO523 := Aside0.mk (Kd.R_drew HO523.out)
       replace HO527 := Aside0.mk (Kd.R_drew HO527.out)
       replace BK488 := Aside0.mk (blk_drew BK488.out)
       replace HB := Aside0.mk (below_drew1 HB.out)
       obtain ⟨Ao96, co96, eo96⟩ := Kd.R_slice HO491.out
       (first | subst eo96 | (injection eo96 with f1_ f2_ f3_; have f4_ := f1_.symm; have f5_ := f3_.symm; clear f1_ f2_ f3_; subst f4_; subst f5_))
       obtain ⟨Ao97, co97, eo97⟩ := Kd.R_slice HO495.out
       (first | subst eo97 | (injection eo97 with f1_ f2_ f3_; have f4_ := f1_.symm; have f5_ := f3_.symm; clear f1_ f2_ f3_; subst f4_; subst f5_))
       refine start_ (n := 154) (S := fun w' => w'.cell? ⟨gb488, 0, none⟩ = some (.int .i64 a0_0) ∧ w'.cell? ⟨gb488, 1, none⟩ = some (.slice A0_1 l0_1.length c0_1)) (ds := []) (tb 154 0) (by kernel_rfl) rfl rfl ⟨ec BK488, ec BK488⟩ (fun hHeld => ?_); refine with_tabW laws_FnRowsGuessedOfAll.tab21 laws_FnRowsGuessedOfAll.bits21 (fun HT_ HW_ => ?_)
       generalize w60.drew = w95 at HO491 HO495 HO515 HO519 HO523 HO527 BK488 HB hHeld ⊢
       refine pu 0 (some 154) (tb 154 1) ?_
       refine pu 1 (some 155) (tb 154 3) ?_
       refine pu 2 (some 156) (tb 154 7) ?_
       refine pu 3 (some 157) (tb 154 15) ?_
       refine pu 4 (some 158) (tb 154 31) ?_
       refine pu 5 (some 159) (tb 154 63) ?_
       refine one_ (i := 6) (N := some 160) (tb 154 127) rfl rfl (one_of HT_.out (by kernel_rfl)) (by decide) (fun K hK => ?_)
       refine go1 Tryz.func22 #[.slice Ao96 t489.length co96, .slice Ao97 t493.length co97] ?_
       with_reducible refine (laws_vTexts.calls k _ _ t489 _ _ t493 true _ ?side1 ?side2 ?side3 ?side4 A62.out).mono ?_
       (case side1 => exact rr HO491)
       (case side2 => exact rn HO491)
       (case side3 => exact rr HO495)
       (case side4 => exact rn HO495)
       rintro e w' ⟨rfl, ⟨nd, rfl⟩⟩
       refine ⟨_, rfl, ?_⟩
       obtain ⟨Ao98, co98, eo98⟩ := Kd.R_slice HO515.out
       (first | subst eo98 | (injection eo98 with f1_ f2_ f3_; have f4_ := f1_.symm; have f5_ := f3_.symm; clear f1_ f2_ f3_; subst f4_; subst f5_))
       obtain ⟨Ao99, co99, eo99⟩ := Kd.R_slice HO519.out
       (first | subst eo99 | (injection eo99 with f1_ f2_ f3_; have f4_ := f1_.symm; have f5_ := f3_.symm; clear f1_ f2_ f3_; subst f4_; subst f5_))
       refine hK.out _ _ ⟨ec BK488, ec BK488⟩ (fun hHeld => ?_)
       clear hK K
       refine nm (some 160) ?_
       refine pu 7 (some 161) (tb 154 255) ?_
       refine pu 8 (some 162) (tb 154 511) ?_
       refine pu 9 (some 163) (tb 154 1023) ?_
       refine pu 10 (some 164) (tb 154 2047) ?_
       refine pu 11 (some 165) (tb 154 4095) ?_
       refine pu 12 (some 166) (tb 154 8191) ?_
       refine pu 13 (some 167) (tb 154 16383) ?_
       refine pu 14 (some 168) (tb 154 32767) ?_
       refine pu 15 (some 169) (tb 154 65535) ?_
       refine pu 16 (some 170) (tb 154 131071) ?_
       refine pu 17 (some 171) (tb 154 262143) ?_
       refine pu 18 (some 172) (tb 154 524287) ?_
       refine pu 19 (some 173) (tb 154 1048575) ?_
       refine pu 20 (some 174) (tb 154 2097151) ?_
       refine pu 21 (some 175) (tb 154 4194303) ?_
       refine pu 22 (some 176) (tb 154 8388607) ?_
       refine pu 23 (some 177) (tb 154 16777215) ?_
       refine pu 24 (some 178) (tb 154 33554431) ?_
       refine pu 25 (some 179) (tb 154 67108863) ?_
       refine pu 26 (some 180) (tb 154 134217727) ?_
       refine pu 27 (some 181) (tb 154 268435455) ?_
       refine pu 28 (some 182) (tb 154 536870911) ?_
       refine pu 29 (some 183) (tb 154 1073741823) ?_
       refine pu 30 (some 184) (tb 154 2147483647) ?_
       refine pu 31 (some 185) (tb 154 4294967295) ?_
       refine pu 32 (some 186) (tb 154 8589934591) ?_
       refine pu 33 (some 187) (tb 154 17179869183) ?_
       refine pu 34 (some 188) (tb 154 34359738367) ?_
       refine pu 35 (some 189) (tb 154 68719476735) ?_
       refine pu 36 (some 190) (tb 154 137438953471) ?_
       refine pu 37 (some 191) (tb 154 274877906943) ?_
       refine pu 38 (some 192) (tb 154 549755813887) ?_
       refine pu 39 (some 193) (tb 154 1099511627775) ?_
       refine pu 40 (some 194) (tb 154 2199023255551) ?_
       refine pu 41 (some 195) (tb 154 4398046511103) ?_
       refine pu 42 (some 196) (tb 154 8796093022207) ?_
       refine pu 43 (some 197) (tb 154 17592186044415) ?_
       refine pu 44 (some 198) (tb 154 35184372088831) ?_
       refine pu 45 (some 199) (tb 154 70368744177663) ?_
       refine pu 46 (some 200) (tb 154 140737488355327) ?_
       refine pu 47 (some 201) (tb 154 281474976710655) ?_
       refine pu 48 (some 202) (tb 154 562949953421311) ?_
       refine pu 49 (some 203) (tb 154 1125899906842623) ?_
       refine pu 50 (some 204) (tb 154 2251799813685247) ?_
       refine pu 51 (some 205) (tb 154 4503599627370495) ?_
       refine pu 52 (some 206) (tb 154 9007199254740991) ?_
       refine pu 53 (some 207) (tb 154 18014398509481983) ?_
       refine pu 54 (some 208) (tb 154 36028797018963967) ?_
       refine pu 55 (some 209) (tb 154 72057594037927935) ?_
       refine pu 56 (some 210) (tb 154 144115188075855871) ?_
       refine one_ (i := 57) (N := some 211) (tb 154 288230376151711743) rfl rfl (one_of HT_.out (by kernel_rfl)) (by decide) (fun K hK => ?_)
       refine go1 Tryz.func23 #[.slice Ao98 t513.length co98, .slice Ao99 t517.length co99] ?_
       with_reducible refine (laws_vSame.calls k _ _ t513 _ _ t517 true _ ?side1 ?side2 ?side3 ?side4 A73.out).mono ?_
       (case side1 => exact rr HO515)
       (case side2 => exact rn HO515)
       (case side3 => exact rr HO519)
       (case side4 => exact rn HO519)
       rintro e w' ⟨rfl, ⟨nd, rfl⟩⟩
       refine ⟨_, rfl, ?_⟩
       obtain ⟨Ao100, co100, eo100⟩ := Kd.R_slice HO523.out
       (first | subst eo100 | (injection eo100 with f1_ f2_ f3_; have f4_ := f1_.symm; have f5_ := f3_.symm; clear f1_ f2_ f3_; subst f4_; subst f5_))
       obtain ⟨Ao101, co101, eo101⟩ := Kd.R_slice HO527.out
       (first | subst eo101 | (injection eo101 with f1_ f2_ f3_; have f4_ := f1_.symm; have f5_ := f3_.symm; clear f1_ f2_ f3_; subst f4_; subst f5_))
       refine hK.out _ _ ⟨ec BK488, ec BK488⟩ (fun hHeld => ?_)
       clear hK K
       refine nm (some 211) ?_
       refine pu 58 (some 212) (tb 154 576460752303423487) ?_
       refine pu 59 (some 213) (tb 154 1152921504606846975) ?_
       refine pu 60 (some 214) (tb 154 2305843009213693951) ?_
       refine pu 61 (some 215) (tb 154 4611686018427387903) ?_
       refine pu 62 (some 216) (tb 154 9223372036854775807) ?_
       refine pu 63 (some 217) (tb 154 18446744073709551615) ?_
       refine pu 64 (some 218) (tb 154 36893488147419103231) ?_
       refine pu 65 (some 219) (tb 154 73786976294838206463) ?_
       refine pu 66 (some 220) (tb 154 147573952589676412927) ?_
       refine pu 67 (some 221) (tb 154 295147905179352825855) ?_
       refine one_ (i := 68) (N := some 222) (tb 154 590295810358705651711) rfl rfl (one_of HT_.out (by kernel_rfl)) (by decide) (fun K hK => ?_)
       refine go1 Tryz.func23 #[.slice Ao100 t521.length co100, .slice Ao101 t525.length co101] ?_
       with_reducible refine (laws_vSame.calls k _ _ t521 _ _ t525 true _ ?side1 ?side2 ?side3 ?side4 A76.out).mono ?_
       (case side1 => exact rr HO523)
       (case side2 => exact rn HO523)
       (case side3 => exact rr HO527)
       (case side4 => exact rn HO527)
       rintro e w' ⟨rfl, ⟨nd, rfl⟩⟩
       refine ⟨_, rfl, ?_⟩
       refine hK.out _ _ ⟨ec BK488, ec BK488⟩ (fun hHeld => ?_)
       clear hK K
       refine nm (some 222) ?_
       refine pu 69 (some 223) (tb 154 1180591620717411303423) ?_
       refine pu 70 (some 224) (tb 154 2361183241434822606847) ?_
       refine pu 71 (some 225) (tb 154 4722366482869645213695) ?_
       refine pu 72 (some 226) (tb 154 9444732965739290427391) ?_
       refine pu 73 (some 227) (tb 154 18889465931478580854783) ?_
       refine pu 74 (some 228) (tb 154 37778931862957161709567) ?_
       refine pu 75 (some 229) (tb 154 75557863725914323419135) ?_
       refine pu 76 (some 230) (tb 154 151115727451828646838271) ?_
       refine pu 77 (some 231) (tb 154 302231454903657293676543) ?_
       refine pu 78 (some 232) (tb 154 604462909807314587353087) ?_
       refine pu 79 (some 233) (tb 154 1208925819614629174706175) ?_
       refine pu 80 (some 234) (tb 154 2417851639229258349412351) ?_
       refine pu 81 (some 235) (tb 154 4835703278458516698824703) ?_
       refine pu 82 (some 236) (tb 154 9671406556917033397649407) ?_
       refine pu 83 (some 237) (tb 154 19342813113834066795298815) ?_
       refine pu 84 (some 238) (tb 154 38685626227668133590597631) ?_
       refine pu 85 (some 239) (tb 154 77371252455336267181195263) ?_
       refine pu 86 (some 240) (tb 154 154742504910672534362390527) ?_
       refine pu 87 (some 241) (tb 154 309485009821345068724781055) ?_
       refine pu 88 (some 242) (tb 154 618970019642690137449562111) ?_
       refine pu 89 (some 243) (tb 154 1237940039285380274899124223) ?_
       refine pu 90 (some 244) (tb 154 2475880078570760549798248447) ?_
       refine pu 91 (some 245) (tb 154 4951760157141521099596496895) ?_
       refine pu 92 (some 246) (tb 154 9903520314283042199192993791) ?_
       refine tk 93 (some 247) (tb 154 19807040628566084398385987583) (hT := HT_) (hB := HW_) hHeld ?_
       refine one_ (i := 94) (N := some 248) (tb 154 39614081257132168796771975167) rfl rfl (one_of HT_.out (by kernel_rfl)) (by decide) (fun K hK => ?_)
       refine go1 Tryz.func24 #[.agg #[.int .i64 a0_0, .slice A0_1 l0_1.length c0_1]] ?_
       with_reducible refine (impl_IsPuzzle.calls k a0_0 _ _ l0_1 t540 _ ?side1 ?side2 A82.out).mono ?_
       (case side1 => exact cb HR0_1)
       (case side2 => exact HC0_1.out)
       rintro e w102 ⟨rfl, hb⟩
       refine ⟨_, rfl, ?_⟩
       replace HO491 := rl HO491 hb
       replace HO495 := rl HO495 hb
       replace HO515 := rl HO515 hb
       replace HO519 := rl HO519 hb
       replace HO523 := rl HO523 hb
       replace HO527 := rl HO527 hb
       replace BK488 := nk BK488 hb
       replace HB := bs hb
       (try clear hb)
       refine hK.out _ _ ⟨ec BK488, ec BK488⟩ (fun hHeld => ?_)
       clear hK K
       refine nm (some 248) ?_
       refine pu 95 (some 249) (tb 154 79228162514264337593543950335) ?_
       refine pu 96 (some 250) (tb 154 158456325028528675187087900671) ?_
       refine pu 97 (some 251) (tb 154 316912650057057350374175801343) ?_
       refine tk 98 (some 252) (tb 154 633825300114114700748351602687) (hT := HT_) (hB := HW_) hHeld ?_
       refine tk 100 (some 254) (tb 154 1901475900342344102245054808063) (hT := HT_) (hB := HW_) hHeld ?_
       refine one_ (i := 99) (N := some 253) (tb 154 2535301200456458802993406410751) rfl rfl (one_of HT_.out (by kernel_rfl)) (by decide) (fun K hK => ?_)
       refine go1 Tryz.func24 #[.agg #[.int .i64 a0_0, .slice A0_1 l0_1.length c0_1]] ?_
       with_reducible refine (impl_IsPuzzle.calls k a0_0 _ _ l0_1 t541 _ ?side1 ?side2 A84.out).mono ?_
       (case side1 => exact cb HR0_1)
       (case side2 => exact HC0_1.out)
       rintro e w103 ⟨rfl, hb⟩
       refine ⟨_, rfl, ?_⟩
       replace HO491 := rl HO491 hb
       replace HO495 := rl HO495 hb
       replace HO515 := rl HO515 hb
       replace HO519 := rl HO519 hb
       replace HO523 := rl HO523 hb
       replace HO527 := rl HO527 hb
       replace BK488 := nk BK488 hb
       replace HB := bs hb
       (try clear hb)
       refine hK.out _ _ ⟨ec BK488, ec BK488⟩ (fun hHeld => ?_)
       clear hK K
       refine nm (some 253) ?_
       refine one_ (i := 101) (N := some 255) (tb 154 5070602400912917605986812821503) rfl rfl (one_of HT_.out (by kernel_rfl)) (by decide) (fun K hK => ?_)
       refine go1 Tryz.func25 #[.agg #[.int .i64 a0_0, .slice A0_1 l0_1.length c0_1]] ?_
       with_reducible refine (spec_IsPuzzle.calls k a0_0 _ _ l0_1 t542 _ ?side1 ?side2 A85.out).mono ?_
       (case side1 => exact cb HR0_1)
       (case side2 => exact HC0_1.out)
       rintro e w104 ⟨rfl, hb⟩
       refine ⟨_, rfl, ?_⟩
       replace HO491 := rl HO491 hb
       replace HO495 := rl HO495 hb
       replace HO515 := rl HO515 hb
       replace HO519 := rl HO519 hb
       replace HO523 := rl HO523 hb
       replace HO527 := rl HO527 hb
       replace BK488 := nk BK488 hb
       replace HB := bs hb
       (try clear hb)
       refine hK.out _ _ ⟨ec BK488, ec BK488⟩ (fun hHeld => ?_)
       clear hK K
       refine nm (some 255) ?_
       refine pu 102 (some 256) (tb 154 10141204801825835211973625643007) ?_
       refine pu 103 (some 257) (tb 154 20282409603651670423947251286015) ?_
       refine pu 104 (some 258) (tb 154 40564819207303340847894502572031) ?_
       refine pu 105 (some 259) (tb 154 81129638414606681695789005144063) ?_
       refine pu 106 (some 260) (tb 154 162259276829213363391578010288127) ?_
       refine pu 107 (some 261) (tb 154 324518553658426726783156020576255) ?_
       refine pu 108 (some 262) (tb 154 649037107316853453566312041152511) ?_
       refine pu 109 (some 263) (tb 154 1298074214633706907132624082305023) ?_
       refine pu 110 (some 264) (tb 154 2596148429267413814265248164610047) ?_
       refine pu 111 (some 265) (tb 154 5192296858534827628530496329220095) ?_
       refine pu 112 (some 266) (tb 154 10384593717069655257060992658440191) ?_
       refine pu 113 (some 267) (tb 154 20769187434139310514121985316880383) ?_
       refine pu 114 (some 268) (tb 154 41538374868278621028243970633760767) ?_
       refine pu 115 (some 269) (tb 154 83076749736557242056487941267521535) ?_
       refine pu 116 (some 270) (tb 154 166153499473114484112975882535043071) ?_
       refine pu 117 (some 271) (tb 154 332306998946228968225951765070086143) ?_
       refine pu 118 (some 272) (tb 154 664613997892457936451903530140172287) ?_
       refine pu 119 (some 273) (tb 154 1329227995784915872903807060280344575) ?_
       refine pu 120 (some 274) (tb 154 2658455991569831745807614120560689151) ?_
       refine pu 121 (some 275) (tb 154 5316911983139663491615228241121378303) ?_
       refine pu 122 (some 276) (tb 154 10633823966279326983230456482242756607) ?_
       refine pu 123 (some 277) (tb 154 21267647932558653966460912964485513215) ?_
       refine pu 124 (some 278) (tb 154 42535295865117307932921825928971026431) ?_
       refine pu 125 (some 279) (tb 154 85070591730234615865843651857942052863) ?_
       refine pu 126 (some 280) (tb 154 170141183460469231731687303715884105727) ?_
       refine pu 127 (some 281) (tb 154 340282366920938463463374607431768211455) ?_
       refine pu 128 (some 282) (tb 154 680564733841876926926749214863536422911) ?_
       refine pu 129 (some 283) (tb 154 1361129467683753853853498429727072845823) ?_
       refine pu 130 (some 284) (tb 154 2722258935367507707706996859454145691647) ?_
       refine pu 131 (some 285) (tb 154 5444517870735015415413993718908291383295) ?_
       refine pu 132 (some 286) (tb 154 10889035741470030830827987437816582766591) ?_
       refine pu 133 (some 287) (tb 154 21778071482940061661655974875633165533183) ?_
       refine pu 134 (some 288) (tb 154 43556142965880123323311949751266331066367) ?_
       refine pu 135 (some 289) (tb 154 87112285931760246646623899502532662132735) ?_
       refine pu 136 (some 290) (tb 154 174224571863520493293247799005065324265471) ?_
       refine pu 137 (some 291) (tb 154 348449143727040986586495598010130648530943) ?_
       refine pu 138 (some 292) (tb 154 696898287454081973172991196020261297061887) ?_
       refine pu 139 (some 293) (tb 154 1393796574908163946345982392040522594123775) ?_
       refine pu 140 (some 294) (tb 154 2787593149816327892691964784081045188247551) ?_
       refine pu 141 (some 295) (tb 154 5575186299632655785383929568162090376495103) ?_
       refine pu 142 (some 296) (tb 154 11150372599265311570767859136324180752990207) ?_
       refine tk 143 (some 297) (tb 154 22300745198530623141535718272648361505980415) (hT := HT_) (hB := HW_) hHeld ?_
       refine pu 144 (some 298) (tb 154 44601490397061246283071436545296723011960831) ?_
       refine pu 145 (some 299) (tb 154 89202980794122492566142873090593446023921663) ?_
       refine pu 146 (some 300) (tb 154 178405961588244985132285746181186892047843327) ?_
       refine pu 147 (some 301) (tb 154 356811923176489970264571492362373784095686655) ?_
       refine pu 148 (some 302) (tb 154 713623846352979940529142984724747568191373311) ?_
       refine pu 149 (some 303) (tb 154 1427247692705959881058285969449495136382746623) ?_
       refine pu 150 (some 304) (tb 154 2854495385411919762116571938898990272765493247) ?_
       refine pu 151 (some 305) (tb 154 5708990770823839524233143877797980545530986495) ?_
       refine pu 152 (some 306) (tb 154 11417981541647679048466287755595961091061972991) ?_
       refine pu 153 (some 307) (tb 154 22835963083295358096932575511191922182123945983) ?_
       refine done_ (done_of HT_.out (by kernel_rfl)) ?_
       try go_wp2
       go_meet
       case rel => exact ⟨_, ((t534 != true)), (rs), H', ⟨by first | omega | exact Nat.le_refl _⟩, ⟨by (with_reducible repeat (first | apply Kd.R_alloc | apply Kd.R_drewN | apply Kd.R_drew)); exact Kd.R_mono HO491.out (fun _ hk => trivial)⟩, ⟨by (with_reducible repeat (first | apply Kd.R_alloc | apply Kd.R_drewN | apply Kd.R_drew)); exact Kd.R_mono HO515.out (fun _ hk => hk.1.2)⟩, ⟨by (with_reducible repeat (first | apply Kd.R_alloc | apply Kd.R_drewN | apply Kd.R_drew)); exact Kd.R_mono HO523.out (fun _ hk => hk.1.1.2)⟩, ⟨pk BK488⟩, ⟨bw⟩⟩
      replace c88 := Bool.eq_false_iff.mpr c88
      subst c88
      rw [if_neg (show ¬ (false = true) by decide)] at H
      by_cases c105 : (t502 != false) = true
      ·rw [if_pos c105] at H
       have c105b0 : (t502 != false) = true := c105
       (try (have c105b1 : decide (t502 = false) = false := by simpa using c105))
       (try (have c105b2 : (t502 == false) = false := by simpa using c105))
       (try (have c105b3 : ¬ (t502 = false) := by simpa using c105))
       clear c105
       exact absurd (Option.some.inj H) (by rw [HRT.out]; decide)
      rw [if_neg c105] at H
      have c105b0 : (t502 != false) = false := by simpa using c105
      (try (have c105b1 : decide (t502 = false) = true := by simpa using c105))
      (try (have c105b2 : (t502 == false) = true := by simpa using c105))
      clear c105
      by_cases c106 : (t506 != t502) = true
      ·rw [if_pos c106] at H
       have c106b0 : (t506 != t502) = true := c106
       (try (have c106b1 : decide (t506 = t502) = false := by simpa using c106))
       (try (have c106b2 : (t506 == t502) = false := by simpa using c106))
       (try (have c106b3 : ¬ (t506 = t502) := by simpa using c106))
       clear c106
       exact absurd (Option.some.inj H) (by rw [HRT.out]; decide)
      rw [if_neg c106] at H
      have c106b0 : (t506 != t502) = false := by simpa using c106
      (try (have c106b1 : decide (t506 = t502) = true := by simpa using c106))
      (try (have c106b2 : (t506 == t502) = true := by simpa using c106))
      clear c106
      by_cases c107 : (t510 != false) = true
      ·rw [if_pos c107] at H
       have c107b0 : (t510 != false) = true := c107
       (try (have c107b1 : decide (t510 = false) = false := by simpa using c107))
       (try (have c107b2 : (t510 == false) = false := by simpa using c107))
       (try (have c107b3 : ¬ (t510 = false) := by simpa using c107))
       clear c107
       exact absurd (Option.some.inj H) (by rw [HRT.out]; decide)
      rw [if_neg c107] at H
      have c107b0 : (t510 != false) = false := by simpa using c107
      (try (have c107b1 : decide (t510 = false) = true := by simpa using c107))
      (try (have c107b2 : (t510 == false) = true := by simpa using c107))
      clear c107
      by_cases c108 : (t516 != false) = true
      ·rw [if_pos c108] at H
       have c108b0 : (t516 != false) = true := c108
       (try (have c108b1 : decide (t516 = false) = false := by simpa using c108))
       (try (have c108b2 : (t516 == false) = false := by simpa using c108))
       (try (have c108b3 : ¬ (t516 = false) := by simpa using c108))
       clear c108
       exact absurd (Option.some.inj H) (by rw [HRT.out]; decide)
      rw [if_neg c108] at H
      have c108b0 : (t516 != false) = false := by simpa using c108
      (try (have c108b1 : decide (t516 = false) = true := by simpa using c108))
      (try (have c108b2 : (t516 == false) = true := by simpa using c108))
      clear c108
      by_cases c109 : (t524 != false) = true
      ·rw [if_pos c109] at H
       have c109b0 : (t524 != false) = true := c109
       (try (have c109b1 : decide (t524 = false) = false := by simpa using c109))
       (try (have c109b2 : (t524 == false) = false := by simpa using c109))
       (try (have c109b3 : ¬ (t524 = false) := by simpa using c109))
       clear c109
       exact absurd (Option.some.inj H) (by rw [HRT.out]; decide)
      rw [if_neg c109] at H
      have c109b0 : (t524 != false) = false := by simpa using c109
      (try (have c109b1 : decide (t524 = false) = true := by simpa using c109))
      (try (have c109b2 : (t524 == false) = true := by simpa using c109))
      clear c109
      by_cases c110 : (t530 != false) = true
      ·rw [if_pos c110] at H
       have c110b0 : (t530 != false) = true := c110
       (try (have c110b1 : decide (t530 = false) = false := by simpa using c110))
       (try (have c110b2 : (t530 == false) = false := by simpa using c110))
       (try (have c110b3 : ¬ (t530 = false) := by simpa using c110))
       clear c110
       exact absurd (Option.some.inj H) (by rw [HRT.out]; decide)
      rw [if_neg c110] at H
      have c110b0 : (t530 != false) = false := by simpa using c110
      (try (have c110b1 : decide (t530 = false) = true := by simpa using c110))
      (try (have c110b2 : (t530 == false) = true := by simpa using c110))
      clear c110
      have H' := Aside0.mk H
      clear H
      try go_upto_region 21 with (fail)
      replace HO491 := Aside0.mk (Kd.R_drew HO491.out)
      replace HO495 := Aside0.mk (Kd.R_drew HO495.out)
      replace HO515 := Aside0.mk (Kd.R_drew HO515.out)
      replace HO519 := Aside0.mk (Kd.R_drew HO519.out)
      replace HO523 := Aside0.mk (Kd.R_drew HO523.out)
      replace HO527 := Aside0.mk (Kd.R_drew HO527.out)
      replace BK488 := Aside0.mk (blk_drew BK488.out)
      replace HB := Aside0.mk (below_drew1 HB.out)
      obtain ⟨Ao112, co112, eo112⟩ := Kd.R_slice HO491.out
      (first | subst eo112 | (injection eo112 with f1_ f2_ f3_; have f4_ := f1_.symm; have f5_ := f3_.symm; clear f1_ f2_ f3_; subst f4_; subst f5_))
      obtain ⟨Ao113, co113, eo113⟩ := Kd.R_slice HO495.out
      (first | subst eo113 | (injection eo113 with f1_ f2_ f3_; have f4_ := f1_.symm; have f5_ := f3_.symm; clear f1_ f2_ f3_; subst f4_; subst f5_))
      refine start_ (n := 154) (S := fun w' => w'.cell? ⟨gb488, 0, none⟩ = some (.int .i64 a0_0) ∧ w'.cell? ⟨gb488, 1, none⟩ = some (.slice A0_1 l0_1.length c0_1)) (ds := []) (tb 154 0) (by kernel_rfl) rfl rfl ⟨ec BK488, ec BK488⟩ (fun hHeld => ?_); refine with_tabW laws_FnRowsGuessedOfAll.tab21 laws_FnRowsGuessedOfAll.bits21 (fun HT_ HW_ => ?_)
      generalize w60.drew = w111 at HO491 HO495 HO515 HO519 HO523 HO527 BK488 HB hHeld ⊢
      refine pu 0 (some 154) (tb 154 1) ?_
      refine pu 1 (some 155) (tb 154 3) ?_
      refine pu 2 (some 156) (tb 154 7) ?_
      refine pu 3 (some 157) (tb 154 15) ?_
      refine pu 4 (some 158) (tb 154 31) ?_
      refine pu 5 (some 159) (tb 154 63) ?_
      refine one_ (i := 6) (N := some 160) (tb 154 127) rfl rfl (one_of HT_.out (by kernel_rfl)) (by decide) (fun K hK => ?_)
      refine go1 Tryz.func22 #[.slice Ao112 t489.length co112, .slice Ao113 t493.length co113] ?_
      with_reducible refine (laws_vTexts.calls k _ _ t489 _ _ t493 true _ ?side1 ?side2 ?side3 ?side4 A62.out).mono ?_
      (case side1 => exact rr HO491)
      (case side2 => exact rn HO491)
      (case side3 => exact rr HO495)
      (case side4 => exact rn HO495)
      rintro e w' ⟨rfl, ⟨nd, rfl⟩⟩
      refine ⟨_, rfl, ?_⟩
      obtain ⟨Ao114, co114, eo114⟩ := Kd.R_slice HO515.out
      (first | subst eo114 | (injection eo114 with f1_ f2_ f3_; have f4_ := f1_.symm; have f5_ := f3_.symm; clear f1_ f2_ f3_; subst f4_; subst f5_))
      obtain ⟨Ao115, co115, eo115⟩ := Kd.R_slice HO519.out
      (first | subst eo115 | (injection eo115 with f1_ f2_ f3_; have f4_ := f1_.symm; have f5_ := f3_.symm; clear f1_ f2_ f3_; subst f4_; subst f5_))
      refine hK.out _ _ ⟨ec BK488, ec BK488⟩ (fun hHeld => ?_)
      clear hK K
      refine nm (some 160) ?_
      refine pu 7 (some 161) (tb 154 255) ?_
      refine pu 8 (some 162) (tb 154 511) ?_
      refine pu 9 (some 163) (tb 154 1023) ?_
      refine pu 10 (some 164) (tb 154 2047) ?_
      refine pu 11 (some 165) (tb 154 4095) ?_
      refine pu 12 (some 166) (tb 154 8191) ?_
      refine pu 13 (some 167) (tb 154 16383) ?_
      refine pu 14 (some 168) (tb 154 32767) ?_
      refine pu 15 (some 169) (tb 154 65535) ?_
      refine pu 16 (some 170) (tb 154 131071) ?_
      refine pu 17 (some 171) (tb 154 262143) ?_
      refine pu 18 (some 172) (tb 154 524287) ?_
      refine pu 19 (some 173) (tb 154 1048575) ?_
      refine pu 20 (some 174) (tb 154 2097151) ?_
      refine pu 21 (some 175) (tb 154 4194303) ?_
      refine pu 22 (some 176) (tb 154 8388607) ?_
      refine pu 23 (some 177) (tb 154 16777215) ?_
      refine pu 24 (some 178) (tb 154 33554431) ?_
      refine pu 25 (some 179) (tb 154 67108863) ?_
      refine pu 26 (some 180) (tb 154 134217727) ?_
      refine pu 27 (some 181) (tb 154 268435455) ?_
      refine pu 28 (some 182) (tb 154 536870911) ?_
      refine pu 29 (some 183) (tb 154 1073741823) ?_
      refine pu 30 (some 184) (tb 154 2147483647) ?_
      refine pu 31 (some 185) (tb 154 4294967295) ?_
      refine pu 32 (some 186) (tb 154 8589934591) ?_
      refine pu 33 (some 187) (tb 154 17179869183) ?_
      refine pu 34 (some 188) (tb 154 34359738367) ?_
      refine pu 35 (some 189) (tb 154 68719476735) ?_
      refine pu 36 (some 190) (tb 154 137438953471) ?_
      refine pu 37 (some 191) (tb 154 274877906943) ?_
      refine pu 38 (some 192) (tb 154 549755813887) ?_
      refine pu 39 (some 193) (tb 154 1099511627775) ?_
      refine pu 40 (some 194) (tb 154 2199023255551) ?_
      refine pu 41 (some 195) (tb 154 4398046511103) ?_
      refine pu 42 (some 196) (tb 154 8796093022207) ?_
      refine pu 43 (some 197) (tb 154 17592186044415) ?_
      refine pu 44 (some 198) (tb 154 35184372088831) ?_
      refine pu 45 (some 199) (tb 154 70368744177663) ?_
      refine pu 46 (some 200) (tb 154 140737488355327) ?_
      refine pu 47 (some 201) (tb 154 281474976710655) ?_
      refine pu 48 (some 202) (tb 154 562949953421311) ?_
      refine pu 49 (some 203) (tb 154 1125899906842623) ?_
      refine pu 50 (some 204) (tb 154 2251799813685247) ?_
      refine pu 51 (some 205) (tb 154 4503599627370495) ?_
      refine pu 52 (some 206) (tb 154 9007199254740991) ?_
      refine pu 53 (some 207) (tb 154 18014398509481983) ?_
      refine pu 54 (some 208) (tb 154 36028797018963967) ?_
      refine pu 55 (some 209) (tb 154 72057594037927935) ?_
      refine pu 56 (some 210) (tb 154 144115188075855871) ?_
      refine one_ (i := 57) (N := some 211) (tb 154 288230376151711743) rfl rfl (one_of HT_.out (by kernel_rfl)) (by decide) (fun K hK => ?_)
      refine go1 Tryz.func23 #[.slice Ao114 t513.length co114, .slice Ao115 t517.length co115] ?_
      with_reducible refine (laws_vSame.calls k _ _ t513 _ _ t517 true _ ?side1 ?side2 ?side3 ?side4 A73.out).mono ?_
      (case side1 => exact rr HO515)
      (case side2 => exact rn HO515)
      (case side3 => exact rr HO519)
      (case side4 => exact rn HO519)
      rintro e w' ⟨rfl, ⟨nd, rfl⟩⟩
      refine ⟨_, rfl, ?_⟩
      obtain ⟨Ao116, co116, eo116⟩ := Kd.R_slice HO523.out
      (first | subst eo116 | (injection eo116 with f1_ f2_ f3_; have f4_ := f1_.symm; have f5_ := f3_.symm; clear f1_ f2_ f3_; subst f4_; subst f5_))
      obtain ⟨Ao117, co117, eo117⟩ := Kd.R_slice HO527.out
      (first | subst eo117 | (injection eo117 with f1_ f2_ f3_; have f4_ := f1_.symm; have f5_ := f3_.symm; clear f1_ f2_ f3_; subst f4_; subst f5_))
      refine hK.out _ _ ⟨ec BK488, ec BK488⟩ (fun hHeld => ?_)
      clear hK K
      refine nm (some 211) ?_
      refine pu 58 (some 212) (tb 154 576460752303423487) ?_
      refine pu 59 (some 213) (tb 154 1152921504606846975) ?_
      refine pu 60 (some 214) (tb 154 2305843009213693951) ?_
      refine pu 61 (some 215) (tb 154 4611686018427387903) ?_
      refine pu 62 (some 216) (tb 154 9223372036854775807) ?_
      refine pu 63 (some 217) (tb 154 18446744073709551615) ?_
      refine pu 64 (some 218) (tb 154 36893488147419103231) ?_
      refine pu 65 (some 219) (tb 154 73786976294838206463) ?_
      refine pu 66 (some 220) (tb 154 147573952589676412927) ?_
      refine pu 67 (some 221) (tb 154 295147905179352825855) ?_
      refine one_ (i := 68) (N := some 222) (tb 154 590295810358705651711) rfl rfl (one_of HT_.out (by kernel_rfl)) (by decide) (fun K hK => ?_)
      refine go1 Tryz.func23 #[.slice Ao116 t521.length co116, .slice Ao117 t525.length co117] ?_
      with_reducible refine (laws_vSame.calls k _ _ t521 _ _ t525 true _ ?side1 ?side2 ?side3 ?side4 A76.out).mono ?_
      (case side1 => exact rr HO523)
      (case side2 => exact rn HO523)
      (case side3 => exact rr HO527)
      (case side4 => exact rn HO527)
      rintro e w' ⟨rfl, ⟨nd, rfl⟩⟩
      refine ⟨_, rfl, ?_⟩
      refine hK.out _ _ ⟨ec BK488, ec BK488⟩ (fun hHeld => ?_)
      clear hK K
      refine nm (some 222) ?_
      refine pu 69 (some 223) (tb 154 1180591620717411303423) ?_
      refine pu 70 (some 224) (tb 154 2361183241434822606847) ?_
      refine pu 71 (some 225) (tb 154 4722366482869645213695) ?_
      refine pu 72 (some 226) (tb 154 9444732965739290427391) ?_
      refine pu 73 (some 227) (tb 154 18889465931478580854783) ?_
      refine pu 74 (some 228) (tb 154 37778931862957161709567) ?_
      refine pu 75 (some 229) (tb 154 75557863725914323419135) ?_
      refine pu 76 (some 230) (tb 154 151115727451828646838271) ?_
      refine pu 77 (some 231) (tb 154 302231454903657293676543) ?_
      refine pu 78 (some 232) (tb 154 604462909807314587353087) ?_
      refine pu 79 (some 233) (tb 154 1208925819614629174706175) ?_
      refine pu 80 (some 234) (tb 154 2417851639229258349412351) ?_
      refine pu 81 (some 235) (tb 154 4835703278458516698824703) ?_
      refine pu 82 (some 236) (tb 154 9671406556917033397649407) ?_
      refine pu 83 (some 237) (tb 154 19342813113834066795298815) ?_
      refine pu 84 (some 238) (tb 154 38685626227668133590597631) ?_
      refine pu 85 (some 239) (tb 154 77371252455336267181195263) ?_
      refine pu 86 (some 240) (tb 154 154742504910672534362390527) ?_
      refine pu 87 (some 241) (tb 154 309485009821345068724781055) ?_
      refine pu 88 (some 242) (tb 154 618970019642690137449562111) ?_
      refine pu 89 (some 243) (tb 154 1237940039285380274899124223) ?_
      refine pu 90 (some 244) (tb 154 2475880078570760549798248447) ?_
      refine pu 91 (some 245) (tb 154 4951760157141521099596496895) ?_
      refine pu 92 (some 246) (tb 154 9903520314283042199192993791) ?_
      refine tk 93 (some 247) (tb 154 19807040628566084398385987583) (hT := HT_) (hB := HW_) hHeld ?_
      refine one_ (i := 94) (N := some 248) (tb 154 39614081257132168796771975167) rfl rfl (one_of HT_.out (by kernel_rfl)) (by decide) (fun K hK => ?_)
      refine go1 Tryz.func24 #[.agg #[.int .i64 a0_0, .slice A0_1 l0_1.length c0_1]] ?_
      with_reducible refine (impl_IsPuzzle.calls k a0_0 _ _ l0_1 t540 _ ?side1 ?side2 A82.out).mono ?_
      (case side1 => exact cb HR0_1)
      (case side2 => exact HC0_1.out)
      rintro e w118 ⟨rfl, hb⟩
      refine ⟨_, rfl, ?_⟩
      replace HO491 := rl HO491 hb
      replace HO495 := rl HO495 hb
      replace HO515 := rl HO515 hb
      replace HO519 := rl HO519 hb
      replace HO523 := rl HO523 hb
      replace HO527 := rl HO527 hb
      replace BK488 := nk BK488 hb
      replace HB := bs hb
      (try clear hb)
      refine hK.out _ _ ⟨ec BK488, ec BK488⟩ (fun hHeld => ?_)
      clear hK K
      refine nm (some 248) ?_
      refine pu 95 (some 249) (tb 154 79228162514264337593543950335) ?_
      refine pu 96 (some 250) (tb 154 158456325028528675187087900671) ?_
      refine pu 97 (some 251) (tb 154 316912650057057350374175801343) ?_
      refine tk 98 (some 252) (tb 154 633825300114114700748351602687) (hT := HT_) (hB := HW_) hHeld ?_
      refine tk 100 (some 254) (tb 154 1901475900342344102245054808063) (hT := HT_) (hB := HW_) hHeld ?_
      refine one_ (i := 99) (N := some 253) (tb 154 2535301200456458802993406410751) rfl rfl (one_of HT_.out (by kernel_rfl)) (by decide) (fun K hK => ?_)
      refine go1 Tryz.func24 #[.agg #[.int .i64 a0_0, .slice A0_1 l0_1.length c0_1]] ?_
      with_reducible refine (impl_IsPuzzle.calls k a0_0 _ _ l0_1 t541 _ ?side1 ?side2 A84.out).mono ?_
      (case side1 => exact cb HR0_1)
      (case side2 => exact HC0_1.out)
      rintro e w119 ⟨rfl, hb⟩
      refine ⟨_, rfl, ?_⟩
      replace HO491 := rl HO491 hb
      replace HO495 := rl HO495 hb
      replace HO515 := rl HO515 hb
      replace HO519 := rl HO519 hb
      replace HO523 := rl HO523 hb
      replace HO527 := rl HO527 hb
      replace BK488 := nk BK488 hb
      replace HB := bs hb
      (try clear hb)
      refine hK.out _ _ ⟨ec BK488, ec BK488⟩ (fun hHeld => ?_)
      clear hK K
      refine nm (some 253) ?_
      refine one_ (i := 101) (N := some 255) (tb 154 5070602400912917605986812821503) rfl rfl (one_of HT_.out (by kernel_rfl)) (by decide) (fun K hK => ?_)
      refine go1 Tryz.func25 #[.agg #[.int .i64 a0_0, .slice A0_1 l0_1.length c0_1]] ?_
      with_reducible refine (spec_IsPuzzle.calls k a0_0 _ _ l0_1 t542 _ ?side1 ?side2 A85.out).mono ?_
      (case side1 => exact cb HR0_1)
      (case side2 => exact HC0_1.out)
      rintro e w120 ⟨rfl, hb⟩
      refine ⟨_, rfl, ?_⟩
      replace HO491 := rl HO491 hb
      replace HO495 := rl HO495 hb
      replace HO515 := rl HO515 hb
      replace HO519 := rl HO519 hb
      replace HO523 := rl HO523 hb
      replace HO527 := rl HO527 hb
      replace BK488 := nk BK488 hb
      replace HB := bs hb
      (try clear hb)
      refine hK.out _ _ ⟨ec BK488, ec BK488⟩ (fun hHeld => ?_)
      clear hK K
      refine nm (some 255) ?_
      refine pu 102 (some 256) (tb 154 10141204801825835211973625643007) ?_
      refine pu 103 (some 257) (tb 154 20282409603651670423947251286015) ?_
      refine pu 104 (some 258) (tb 154 40564819207303340847894502572031) ?_
      refine pu 105 (some 259) (tb 154 81129638414606681695789005144063) ?_
      refine pu 106 (some 260) (tb 154 162259276829213363391578010288127) ?_
      refine pu 107 (some 261) (tb 154 324518553658426726783156020576255) ?_
      refine pu 108 (some 262) (tb 154 649037107316853453566312041152511) ?_
      refine pu 109 (some 263) (tb 154 1298074214633706907132624082305023) ?_
      refine pu 110 (some 264) (tb 154 2596148429267413814265248164610047) ?_
      refine pu 111 (some 265) (tb 154 5192296858534827628530496329220095) ?_
      refine pu 112 (some 266) (tb 154 10384593717069655257060992658440191) ?_
      refine pure_ (i := 113) (N := some 267) (v := undef) (a' := ?_) (tb 154 20769187434139310514121985316880383) rfl rfl (any_of HT_.out (by kernel_rfl)) (fun _ _ _ h => h) (Or.inr ⟨by rfl, rfl⟩) ?_ ?_
      rotate_left
      ·simp only [Act.put, List.setIfInBounds_toArray, List.set_cons_zero, List.set_cons_succ, i64_w, i32_w]
       rfl
      refine pure_ (i := 114) (N := some 268) (v := undef) (a' := ?_) (tb 154 41538374868278621028243970633760767) rfl rfl (any_of HT_.out (by kernel_rfl)) (fun _ _ _ h => h) (Or.inr ⟨by rfl, rfl⟩) ?_ ?_
      rotate_left
      ·simp only [Act.put, List.setIfInBounds_toArray, List.set_cons_zero, List.set_cons_succ, i64_w, i32_w]
       rfl
      refine pu 115 (some 269) (tb 154 83076749736557242056487941267521535) ?_
      refine pu 116 (some 270) (tb 154 166153499473114484112975882535043071) ?_
      refine pu 117 (some 271) (tb 154 332306998946228968225951765070086143) ?_
      refine pu 118 (some 272) (tb 154 664613997892457936451903530140172287) ?_
      refine pu 119 (some 273) (tb 154 1329227995784915872903807060280344575) ?_
      refine pu 120 (some 274) (tb 154 2658455991569831745807614120560689151) ?_
      refine pu 121 (some 275) (tb 154 5316911983139663491615228241121378303) ?_
      refine pu 122 (some 276) (tb 154 10633823966279326983230456482242756607) ?_
      refine pu 123 (some 277) (tb 154 21267647932558653966460912964485513215) ?_
      refine pu 124 (some 278) (tb 154 42535295865117307932921825928971026431) ?_
      refine pu 125 (some 279) (tb 154 85070591730234615865843651857942052863) ?_
      refine pu 126 (some 280) (tb 154 170141183460469231731687303715884105727) ?_
      refine pu 127 (some 281) (tb 154 340282366920938463463374607431768211455) ?_
      refine pu 128 (some 282) (tb 154 680564733841876926926749214863536422911) ?_
      refine pu 129 (some 283) (tb 154 1361129467683753853853498429727072845823) ?_
      refine pu 130 (some 284) (tb 154 2722258935367507707706996859454145691647) ?_
      refine pu 131 (some 285) (tb 154 5444517870735015415413993718908291383295) ?_
      refine pu 132 (some 286) (tb 154 10889035741470030830827987437816582766591) ?_
      refine pu 133 (some 287) (tb 154 21778071482940061661655974875633165533183) ?_
      refine pu 134 (some 288) (tb 154 43556142965880123323311949751266331066367) ?_
      refine pu 135 (some 289) (tb 154 87112285931760246646623899502532662132735) ?_
      refine pu 136 (some 290) (tb 154 174224571863520493293247799005065324265471) ?_
      refine pu 137 (some 291) (tb 154 348449143727040986586495598010130648530943) ?_
      refine pu 138 (some 292) (tb 154 696898287454081973172991196020261297061887) ?_
      refine pu 139 (some 293) (tb 154 1393796574908163946345982392040522594123775) ?_
      refine pu 140 (some 294) (tb 154 2787593149816327892691964784081045188247551) ?_
      refine pu 141 (some 295) (tb 154 5575186299632655785383929568162090376495103) ?_
      refine pure_ (i := 142) (N := some 296) (v := undef) (a' := ?_) (tb 154 11150372599265311570767859136324180752990207) rfl rfl (any_of HT_.out (by kernel_rfl)) (fun _ _ _ h => h) (Or.inr ⟨by rfl, rfl⟩) ?_ ?_
      rotate_left
      ·simp only [Act.put, List.setIfInBounds_toArray, List.set_cons_zero, List.set_cons_succ, i64_w, i32_w]
       rfl
      refine pure_ (i := 143) (N := some 297) (v := undef) (a' := ?_) (tb 154 22300745198530623141535718272648361505980415) rfl rfl (any_of HT_.out (by kernel_rfl)) (fun _ _ _ h => h) (Or.inr ⟨by rfl, rfl⟩) ?_ ?_
      rotate_left
      ·simp only [Act.put, List.setIfInBounds_toArray, List.set_cons_zero, List.set_cons_succ, i64_w, i32_w]
       rfl
      refine pure_ (i := 144) (N := some 298) (v := undef) (a' := ?_) (tb 154 44601490397061246283071436545296723011960831) rfl rfl (any_of HT_.out (by kernel_rfl)) (fun _ _ _ h => h) (Or.inr ⟨by rfl, rfl⟩) ?_ ?_
      rotate_left
      ·simp only [Act.put, List.setIfInBounds_toArray, List.set_cons_zero, List.set_cons_succ, i64_w, i32_w]
       rfl
      refine pure_ (i := 145) (N := some 299) (v := undef) (a' := ?_) (tb 154 89202980794122492566142873090593446023921663) rfl rfl (any_of HT_.out (by kernel_rfl)) (fun _ _ _ h => h) (Or.inr ⟨by rfl, rfl⟩) ?_ ?_
      rotate_left
      ·simp only [Act.put, List.setIfInBounds_toArray, List.set_cons_zero, List.set_cons_succ, i64_w, i32_w]
       rfl
      refine pu 146 (some 300) (tb 154 178405961588244985132285746181186892047843327) ?_
      refine pu 147 (some 301) (tb 154 356811923176489970264571492362373784095686655) ?_
      refine pu 148 (some 302) (tb 154 713623846352979940529142984724747568191373311) ?_
      refine pu 149 (some 303) (tb 154 1427247692705959881058285969449495136382746623) ?_
      refine pu 150 (some 304) (tb 154 2854495385411919762116571938898990272765493247) ?_
      refine pu 151 (some 305) (tb 154 5708990770823839524233143877797980545530986495) ?_
      refine pu 152 (some 306) (tb 154 11417981541647679048466287755595961091061972991) ?_
      refine pu 153 (some 307) (tb 154 22835963083295358096932575511191922182123945983) ?_
      refine done_ (done_of HT_.out (by kernel_rfl)) ?_
      try go_wp2
      go_meet
      case rel => exact ⟨_, ((t534 != false)), (rs), H', ⟨by first | omega | exact Nat.le_refl _⟩, ⟨by (with_reducible repeat (first | apply Kd.R_alloc | apply Kd.R_drewN | apply Kd.R_drew)); exact Kd.R_mono HO491.out (fun _ hk => trivial)⟩, ⟨by (with_reducible repeat (first | apply Kd.R_alloc | apply Kd.R_drewN | apply Kd.R_drew)); exact Kd.R_mono HO515.out (fun _ hk => hk.1.2)⟩, ⟨by (with_reducible repeat (first | apply Kd.R_alloc | apply Kd.R_drewN | apply Kd.R_drew)); exact Kd.R_mono HO523.out (fun _ hk => hk.1.1.2)⟩, ⟨pk BK488⟩, ⟨bw⟩⟩
     rw [if_neg c81] at H
     have c81b0 : (t533.toList == t535.toList) = false := beq_eq_false_iff_ne.mpr c81
     have c81b1 : (t533.toList != t535.toList) = true := bne_iff_ne.mpr c81
     exact absurd (Option.some.inj H) (by rw [HRT.out]; decide)
    rw [if_neg c79] at H
    have c79b0 : (t529 == t531) = false := beq_eq_false_iff_ne.mpr c79
    have c79b1 : (t529 != t531) = true := bne_iff_ne.mpr c79
    exact absurd (Option.some.inj H) (by rw [HRT.out]; decide)
   rw [if_neg c69] at H
   have c69b0 : (t505.toList == t507.toList) = false := beq_eq_false_iff_ne.mpr c69
   have c69b1 : (t505.toList != t507.toList) = true := bne_iff_ne.mpr c69
   exact absurd (Option.some.inj H) (by rw [HRT.out]; decide)
  rw [if_neg c67] at H
  have c67b0 : (t501.toList == t503.toList) = false := beq_eq_false_iff_ne.mpr c67
  have c67b1 : (t501.toList != t503.toList) = true := bne_iff_ne.mpr c67
  exact absurd (Option.some.inj H) (by rw [HRT.out]; decide)
 rw [if_neg c65] at H
 have c65b0 : (t497 == t499) = false := beq_eq_false_iff_ne.mpr c65
 have c65b1 : (t497 != t499) = true := bne_iff_ne.mpr c65
 exact absurd (Option.some.inj H) (by rw [HRT.out]; decide)

end Go.Proofs.YtfaakdokcldnkaaGreatDoor.PFnRowsGuessedOfAll
