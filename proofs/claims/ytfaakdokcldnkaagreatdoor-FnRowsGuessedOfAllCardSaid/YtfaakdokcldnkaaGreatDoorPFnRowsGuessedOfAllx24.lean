-- Laid by xprint, a program of this session that runs over the kit's print.
import Derived.Test.YtfaakdokcldnkaaGreatDoorPFnRowsGuessedOfAllx23
namespace Go.Proofs.YtfaakdokcldnkaaGreatDoor.PFnRowsGuessedOfAll
open Go.RowKit Go.Proofs.YtfaakdokcldnkaaGreatDoorW.PrintWords Go.Proofs.YtfaakdokcldnkaaGreatDoorW.PrintLast Go.Proofs.YtfaakdokcldnkaaGreatDoorW.PrintMore Go.Proofs.YtfaakdokcldnkaaGreatDoor.Sq
attribute [local go_sem] max2_int min2_int max_two min_two max_three min_three max_four min_four   -- for this text's walks alone
set_option linter.unusedVariables false
set_option linter.unusedSimpArgs false

/-! ### laws_FnRowsGuessedOfAll: its contract -/
set_option maxHeartbeats 80000000 in
set_option maxRecDepth 100000 in
theorem laws_FnRowsGuessedOfAll.r3
 {k : Nat}
 {a0_0 : Int}
 {A0_1 : Option Addr}
 {c0_1 : Nat}
 {l0_1 : List S42}
 {a1 : ByteArray}
 {r : Bool}
 {w : World}
 (HR0_1 : Aside0 (Kd.C k42 w A0_1 (List.length l0_1) l0_1))
 (HC0_1 : Aside0 (List.length l0_1 ≤ c0_1))
 (HRT : Aside0 (r = true))
 (HMM : Aside0 (Dr.Tab w))
 {t489 t493 : List ByteArray}
 {t496 : Bool}
 {t497 : Int}
 {t498 : Bool}
 {t499 : Int}
 {t500 : Bool}
 {t501 : ByteArray}
 {t502 : Bool}
 {t503 : ByteArray}
 {t504 : Bool}
 {t505 : ByteArray}
 {t506 : Bool}
 {t507 : ByteArray}
 {t508 t509 t510 t511 t512 : Bool}
 {t513 : List Int}
 {t516 : Bool}
 {t517 : List Int}
 {t520 : Bool}
 {t521 : List Int}
 {t524 : Bool}
 {t525 : List Int}
 {t528 : Bool}
 {t529 : Int}
 {t530 : Bool}
 {t531 : Int}
 {t532 : Bool}
 {t533 : ByteArray}
 {t534 : Bool}
 {t535 : ByteArray}
 {t536 : Bool}
 {gb488 : Nat}
 (w24 w26 : World)
 {v490 : Value}
 (w28 : World)
 {v494 : Value}
 (w30 w32 w34 w36 w38 w40 w42 w44 w46 : World)
 {v514 : Value}
 (w48 : World)
 {v518 : Value}
 (w50 : World)
 {v522 : Value}
 (w52 : World)
 {v526 : Value}
 (w54 w56 w58 : World)
 {w60 : World}
 (HO491 : Aside0 (Kd.R Kd.string 9 w60 (Array.size w.heap) (fun k => True ∧ some k ≠ Value.ownBlock v494) v490 t489))
 (HO495 : Aside0 (Kd.R Kd.string 9 w60 (Array.size w.heap) (fun k => True ∧ some k ≠ Value.ownBlock v490) v494 t493))
 (HO515 : Aside0 (Kd.R (Kd.int .i64) 3 w60 (Array.size w.heap) (fun k => ((True ∧ some k ≠ Value.ownBlock v518) ∧ some k ≠ Value.ownBlock v522) ∧ some k ≠ Value.ownBlock v526) v514 t513))
 (HO519 : Aside0 (Kd.R (Kd.int .i64) 3 w60 (Array.size w.heap) (fun k => ((True ∧ some k ≠ Value.ownBlock v514) ∧ some k ≠ Value.ownBlock v522) ∧ some k ≠ Value.ownBlock v526) v518 t517))
 (HO523 : Aside0 (Kd.R (Kd.int .i64) 3 w60 (Array.size w.heap) (fun k => ((True ∧ some k ≠ Value.ownBlock v514) ∧ some k ≠ Value.ownBlock v518) ∧ some k ≠ Value.ownBlock v526) v522 t521))
 (HO527 : Aside0 (Kd.R (Kd.int .i64) 3 w60 (Array.size w.heap) (fun k => ((True ∧ some k ≠ Value.ownBlock v514) ∧ some k ≠ Value.ownBlock v518) ∧ some k ≠ Value.ownBlock v522) v526 t525))
 {u98 u103 u107 u108 u112 u113 u118 u123 u128 u133 u138 u140 u141 u142 u143 u144 u145 u146 u147 u148 u149 u150 u151 u152 u153 u154 u155 u156 u157 u158 u159 u160 u161 u162 u163 u164 u165 u166 u167 u168 u169 u170 u171 u172 u173 u174 u175 u176 u177 u178 u179 u180 u181 u182 u183 u184 u185 u186 u187 u188 u189 u190 u191 u192 u193 u194 u195 u196 u197 u198 u199 u200 u201 u202 u203 u204 u205 u206 u207 u208 u209 u210 u211 u212 u213 u214 u215 u216 u217 u218 u219 u220 u221 u222 u223 u224 u225 u226 u227 u228 u229 u230 u231 u232 u233 u234 u235 u236 u237 u238 u239 u240 u241 u242 u243 u244 u245 u246 u247 u248 u252 u254 u267 : Value}
 {kj22 : Nat}
 (HJ22 : Aside0 (kj22 + 1 ≤ k))
 {J2_ K2_ : Act → World → Prop}
 (hM2_ : ∀ (a' : Act) (w' : World), Met J2_ a' w' → K2_ a' w')
 (hJ2_ : ∀ (a' : Act) (w' : World), (∃ u4 u41 u42 u44 u45 u46 u47 u48 u49 u50 u51 u52 u53 u54 u249 u250 u251 u253 u255 u256 u257 u258 u259 u260 u261 u262 u263 u264 u265 u266 u268 u269 u270 u271 u272 u273 u274 u275 u276 u277 u278 u279 u280 u281 u282 u283 u284 u285 u286 u287 u288 u289 u290 u291 u292 u293 u294 u295 u296 u297 u298 u299 u300 u301 u302 u303 u304 u305 u306 u307 u308 u309 u310 u311 u312 u313 u314 u315 u316 u317 u318 u319 u320 u321 u322 u323 u324 u325 u326 u327 u328 u329 u330 u331 u332 u333 u334 u335 u336 u337 u338 u339 u340 u341 u342 u343 u344 u345 u346 u347 u348 u349 u350 u351 u352 u353 u354 u355 u356 u357 u358 u359 u360 u361 u362 u363 u364 u365 u366 u367 u368 u369 u370 u371 u372 u373 u374 u375 u376 u377 u378 u379 u380 u381 u382 u383 u384 u385 u386 u387 u388 u389 u390 u391 u392 u393 u394 u395 u396 u397 u398 u399 u400 u401 u402 u403 u404 u405 u406 u407 u408 u409 u410 u411 u412 u413 u414 u415 u416 u417 u418 u419 u420 u421 u422 u423 u424 u425 u426 u427 u428 u429 u430 u431 u432 u433 u434 u435 u436 u437 u438 u439 u440 u441 u442 u443 u444 u445 u446 u447 u448 u449 u450 u451 u452 u453 u454 u455 u456 u457 u458 u459 u460 u461 u462 u463 u464 u465 u466 u467 u468 u469 u470 u471 u472 u473 u474 u475 u476 u477 u478 u479 u480 u481 u482 u483 u484 u485 u486 u487 u488 u489 u490 u491 u492 u493 u494 u495 u496 u497 u498 u499 u500 u501 u502 u503 u504 u505 u506 u507 u508 u509 u510 u511 u512, (∃ kq, Aside0 (j7 kq a1 = some r) ∧ Aside0 (kq ≤ kj22) ∧ Aside0 (Below (Array.size w.heap) w w')) ∧ a' = { tmps := #[.agg #[.int .i64 a0_0, .slice A0_1 (List.length l0_1) c0_1], .string a1, .pointer (some { block := gb488, off := 0 }), undef, u4, v490, .bool true, v494, .bool t496, .int .i64 t497, .bool t498, .int .i64 t499, .bool t500, .string t501, .bool t502, .string t503, .bool t504, .string t505, .bool t506, .string t507, .bool t508, .bool t509, .bool t510, .bool t511, .bool t512, v514, .bool t516, v518, .bool t520, v522, .bool t524, v526, .bool t528, .int .i64 t529, .bool t530, .int .i64 t531, .bool t532, .string t533, .bool t534, .string t535, .bool t536, u41, u42, undef, u44, u45, u46, u47, u48, u49, u50, u51, u52, u53, u54, undef, undef, undef, undef, undef, undef, .string a1, .int .i64 ↑(ByteArray.size a1), .bool false, Value.tuple #[v490, .bool true], .agg #[.int .i64 a0_0, .slice A0_1 (List.length l0_1) c0_1], Value.tuple #[v490, .bool true], v490, .bool true, Value.tuple #[v494, .bool t496], .agg #[.int .i64 a0_0, .slice A0_1 (List.length l0_1) c0_1], Value.tuple #[v494, .bool t496], v494, .bool t496, Value.tuple #[.int .i64 t497, .bool t498], .agg #[.int .i64 a0_0, .slice A0_1 (List.length l0_1) c0_1], Value.tuple #[.int .i64 t497, .bool t498], .int .i64 t497, .bool t498, Value.tuple #[.int .i64 t499, .bool t500], .agg #[.int .i64 a0_0, .slice A0_1 (List.length l0_1) c0_1], Value.tuple #[.int .i64 t499, .bool t500], .int .i64 t499, .bool t500, Value.tuple #[.string t501, .bool t502], .agg #[.int .i64 a0_0, .slice A0_1 (List.length l0_1) c0_1], Value.tuple #[.string t501, .bool t502], .string t501, .bool t502, Value.tuple #[.string t503, .bool t504], .agg #[.int .i64 a0_0, .slice A0_1 (List.length l0_1) c0_1], Value.tuple #[.string t503, .bool t504], .string t503, .bool t504, Value.tuple #[.string t505, .bool t506], .agg #[.int .i64 a0_0, .slice A0_1 (List.length l0_1) c0_1], Value.tuple #[.string t505, .bool t506], .string t505, u98, Value.tuple #[.string t507, .bool t508], .agg #[.int .i64 a0_0, .slice A0_1 (List.length l0_1) c0_1], Value.tuple #[.string t507, .bool t508], .string t507, u103, Value.tuple #[.bool t509, .bool t510], .agg #[.int .i64 a0_0, .slice A0_1 (List.length l0_1) c0_1], Value.tuple #[.bool t509, .bool t510], u107, u108, Value.tuple #[.bool t511, .bool t512], .agg #[.int .i64 a0_0, .slice A0_1 (List.length l0_1) c0_1], Value.tuple #[.bool t511, .bool t512], u112, u113, Value.tuple #[v514, .bool t516], .agg #[.int .i64 a0_0, .slice A0_1 (List.length l0_1) c0_1], Value.tuple #[v514, .bool t516], v514, u118, Value.tuple #[v518, .bool t520], .agg #[.int .i64 a0_0, .slice A0_1 (List.length l0_1) c0_1], Value.tuple #[v518, .bool t520], v518, u123, Value.tuple #[v522, .bool t524], .agg #[.int .i64 a0_0, .slice A0_1 (List.length l0_1) c0_1], Value.tuple #[v522, .bool t524], v522, u128, Value.tuple #[v526, .bool t528], .agg #[.int .i64 a0_0, .slice A0_1 (List.length l0_1) c0_1], Value.tuple #[v526, .bool t528], v526, u133, Value.tuple #[.int .i64 t529, .bool t530], .agg #[.int .i64 a0_0, .slice A0_1 (List.length l0_1) c0_1], Value.tuple #[.int .i64 t529, .bool t530], .int .i64 t529, u138, Value.tuple #[.int .i64 t531, .bool t532], u140, u141, u142, u143, u144, u145, u146, u147, u148, u149, u150, u151, u152, u153, u154, u155, u156, u157, u158, u159, u160, u161, u162, u163, u164, u165, u166, u167, u168, u169, u170, u171, u172, u173, u174, u175, u176, u177, u178, u179, u180, u181, u182, u183, u184, u185, u186, u187, u188, u189, u190, u191, u192, u193, u194, u195, u196, u197, u198, u199, u200, u201, u202, u203, u204, u205, u206, u207, u208, u209, u210, u211, u212, u213, u214, u215, u216, u217, u218, u219, u220, u221, u222, u223, u224, u225, u226, u227, u228, u229, u230, u231, u232, u233, u234, u235, u236, u237, u238, u239, u240, u241, u242, u243, u244, u245, u246, u247, u248, u249, u250, u251, u252, u253, u254, u255, u256, u257, u258, u259, u260, u261, u262, u263, u264, u265, u266, u267, u268, u269, u270, u271, u272, u273, u274, u275, u276, u277, u278, u279, u280, u281, u282, u283, u284, u285, u286, u287, u288, u289, u290, u291, u292, u293, u294, u295, u296, u297, u298, u299, u300, u301, u302, u303, u304, u305, u306, u307, u308, u309, u310, u311, u312, u313, u314, u315, u316, u317, u318, u319, u320, u321, u322, u323, u324, u325, u326, u327, u328, u329, u330, u331, u332, u333, u334, u335, u336, u337, u338, u339, u340, u341, u342, u343, u344, u345, u346, u347, u348, u349, u350, u351, u352, u353, u354, u355, u356, u357, u358, u359, u360, u361, u362, u363, u364, u365, u366, u367, u368, u369, u370, u371, u372, u373, u374, u375, u376, u377, u378, u379, u380, u381, u382, u383, u384, u385, u386, u387, u388, u389, u390, u391, u392, u393, u394, u395, u396, u397, u398, u399, u400, u401, u402, u403, u404, u405, u406, u407, u408, u409, u410, u411, u412, u413, u414, u415, u416, u417, u418, u419, u420, u421, u422, u423, u424, u425, u426, u427, u428, u429, u430, u431, u432, u433, u434, u435, u436, u437, u438, u439, u440, u441, u442, u443, u444, u445, u446, u447, u448, u449, u450, u451, u452, u453, u454, u455, u456, u457, u458, u459, u460, u461, u462, u463, u464, u465, u466, u467, u468, u469, u470, u471, u472, u473, u474, u475, u476, u477, u478, u479, u480, u481, u482, u483, u484, u485, u486, u487, u488, u489, u490, u491, u492, u493, u494, u495, u496, u497, u498, u499, u500, u501, u502, u503, u504, u505, u506, u507, u508, u509, u510, u511, u512, undef, undef, undef, undef, undef, undef, undef, undef, undef, undef, undef, undef, undef, undef, undef, undef, undef, undef, undef, undef, undef, undef, undef, undef, undef, undef, undef, undef, undef, undef, undef], defers := [] }) → J2_ a' w')
 {x1_ : Act → World → Prop}
 (x2_ : ∀ (a : Act) (w_1 : World), Code.wp Tryz.prog (cdd Tryz.f3 [1, 1, 1, 1, 1, 1, 1, 1, 1, 1, 1, 1, 1, 1, 1, 1, 1, 1, 1, 1, 1, 0, 1, 0, 1]) (Exit.then K2_ (bodyPost Tryz.prog Tryz.f3 fun e w' => e = Ending.returned (.bool r) ∧ Below (Array.size w.heap) w w')) a w_1 → x1_ a w_1)
 {wc : World}
 {u249 u250 u251 u253 u255 u256 u257 u258 u259 u260 u261 u262 u263 u264 u265 u266 u268 u269 u270 u271 u272 u273 u274 u275 u276 u277 u278 u279 u280 u281 u282 u283 u284 u285 u286 u287 u288 u289 u290 u291 u292 u293 u294 u295 u296 u297 u298 u299 u300 u301 u302 u303 u304 u305 u306 u307 u308 u309 u310 u311 u312 u313 u314 u315 u316 u317 u318 u319 u320 u321 u322 u323 u324 u325 u326 u327 u328 u329 u330 u331 u332 u333 u334 u335 u336 u337 u338 u339 u340 u341 u342 u343 u344 u345 u346 u347 u348 u349 u350 u351 u352 u353 u354 u355 u356 u357 u358 u359 u360 u361 u362 u363 u364 u365 u366 u367 u368 u369 u370 u371 u372 u373 : Value}
 {kq : Nat}
 {x374_123 : Bool}
 (HA : Aside0 (j1 kq a1 t489 t497 t505 t513 t521 t529 t533 x374_123 a0_0 l0_1 = some r))
 (HJ123 : Aside0 (kq ≤ kj22))
 (HO_5 : Aside0 (Kd.R Kd.string 9 wc (Array.size w.heap) (fun x => True) v490 t489))
 (HO_25 : Aside0 (Kd.R (Kd.int .i64) 3 wc (Array.size w.heap) (fun k_ => some k_ ≠ Value.ownBlock v522) v514 t513))
 (HO_29 : Aside0 (Kd.R (Kd.int .i64) 3 wc (Array.size w.heap) (fun k_ => some k_ ≠ Value.ownBlock v514) v522 t521))
 (BK488 : Aside0 (wc.heap[gb488]? = some (.cells #[.int .i64 a0_0, .slice A0_1 (List.length l0_1) c0_1] 24)))
 (HB : Aside0 (Below (Array.size w.heap) w wc)) :
 Code.wp Tryz.prog (cdd Tryz.f3 [1, 1, 1, 1, 1, 1, 1, 1, 1, 1, 1, 1, 1, 1, 1, 1, 1, 1, 1, 1, 1, 0, 1, 0, 0, 1]) (Exit.then x1_ (Exit.then K2_ (bodyPost Tryz.prog Tryz.f3 fun e w' => e = Ending.returned (.bool r) ∧ Below (Array.size w.heap) w w'))) { tmps := #[.agg #[.int .i64 a0_0, .slice A0_1 (List.length l0_1) c0_1], .string a1, .pointer (some { block := gb488, off := 0 }), undef, .bool false, v490, .bool true, v494, .bool t496, .int .i64 t497, .bool t498, .int .i64 t499, .bool t500, .string t501, .bool t502, .string t503, .bool t504, .string t505, .bool t506, .string t507, .bool t508, .bool t509, .bool t510, .bool t511, .bool t512, v514, .bool t516, v518, .bool t520, v522, .bool t524, v526, .bool t528, .int .i64 t529, .bool t530, .int .i64 t531, .bool t532, .string t533, .bool t534, .string t535, .bool t536, undef, undef, undef, undef, undef, undef, undef, undef, undef, undef, undef, undef, undef, undef, undef, undef, undef, undef, undef, undef, .string a1, .int .i64 ↑(ByteArray.size a1), .bool false, Value.tuple #[v490, .bool true], .agg #[.int .i64 a0_0, .slice A0_1 (List.length l0_1) c0_1], Value.tuple #[v490, .bool true], v490, .bool true, Value.tuple #[v494, .bool t496], .agg #[.int .i64 a0_0, .slice A0_1 (List.length l0_1) c0_1], Value.tuple #[v494, .bool t496], v494, .bool t496, Value.tuple #[.int .i64 t497, .bool t498], .agg #[.int .i64 a0_0, .slice A0_1 (List.length l0_1) c0_1], Value.tuple #[.int .i64 t497, .bool t498], .int .i64 t497, .bool t498, Value.tuple #[.int .i64 t499, .bool t500], .agg #[.int .i64 a0_0, .slice A0_1 (List.length l0_1) c0_1], Value.tuple #[.int .i64 t499, .bool t500], .int .i64 t499, .bool t500, Value.tuple #[.string t501, .bool t502], .agg #[.int .i64 a0_0, .slice A0_1 (List.length l0_1) c0_1], Value.tuple #[.string t501, .bool t502], .string t501, .bool t502, Value.tuple #[.string t503, .bool t504], .agg #[.int .i64 a0_0, .slice A0_1 (List.length l0_1) c0_1], Value.tuple #[.string t503, .bool t504], .string t503, .bool t504, Value.tuple #[.string t505, .bool t506], .agg #[.int .i64 a0_0, .slice A0_1 (List.length l0_1) c0_1], Value.tuple #[.string t505, .bool t506], .string t505, u98, Value.tuple #[.string t507, .bool t508], .agg #[.int .i64 a0_0, .slice A0_1 (List.length l0_1) c0_1], Value.tuple #[.string t507, .bool t508], .string t507, u103, Value.tuple #[.bool t509, .bool t510], .agg #[.int .i64 a0_0, .slice A0_1 (List.length l0_1) c0_1], Value.tuple #[.bool t509, .bool t510], u107, u108, Value.tuple #[.bool t511, .bool t512], .agg #[.int .i64 a0_0, .slice A0_1 (List.length l0_1) c0_1], Value.tuple #[.bool t511, .bool t512], u112, u113, Value.tuple #[v514, .bool t516], .agg #[.int .i64 a0_0, .slice A0_1 (List.length l0_1) c0_1], Value.tuple #[v514, .bool t516], v514, u118, Value.tuple #[v518, .bool t520], .agg #[.int .i64 a0_0, .slice A0_1 (List.length l0_1) c0_1], Value.tuple #[v518, .bool t520], v518, u123, Value.tuple #[v522, .bool t524], .agg #[.int .i64 a0_0, .slice A0_1 (List.length l0_1) c0_1], Value.tuple #[v522, .bool t524], v522, u128, Value.tuple #[v526, .bool t528], .agg #[.int .i64 a0_0, .slice A0_1 (List.length l0_1) c0_1], Value.tuple #[v526, .bool t528], v526, u133, Value.tuple #[.int .i64 t529, .bool t530], .agg #[.int .i64 a0_0, .slice A0_1 (List.length l0_1) c0_1], Value.tuple #[.int .i64 t529, .bool t530], .int .i64 t529, u138, Value.tuple #[.int .i64 t531, .bool t532], u140, u141, u142, u143, u144, u145, u146, u147, u148, u149, u150, u151, u152, u153, u154, u155, u156, u157, u158, u159, u160, u161, u162, u163, u164, u165, u166, u167, u168, u169, u170, u171, u172, u173, u174, u175, u176, u177, u178, u179, u180, u181, u182, u183, u184, u185, u186, u187, u188, u189, u190, u191, u192, u193, u194, u195, u196, u197, u198, u199, u200, u201, u202, u203, u204, u205, u206, u207, u208, u209, u210, u211, u212, u213, u214, u215, u216, u217, u218, u219, u220, u221, u222, u223, u224, u225, u226, u227, u228, u229, u230, u231, u232, u233, u234, u235, u236, u237, u238, u239, u240, u241, u242, u243, u244, u245, u246, u247, u248, u249, u250, u251, u252, u253, u254, u255, u256, u257, u258, u259, u260, u261, u262, u263, u264, u265, u266, u267, u268, u269, u270, u271, u272, u273, u274, u275, u276, u277, u278, u279, u280, u281, u282, u283, u284, u285, u286, u287, u288, u289, u290, u291, u292, u293, u294, u295, u296, u297, u298, u299, u300, u301, u302, u303, u304, u305, u306, u307, u308, u309, u310, u311, u312, u313, u314, u315, u316, u317, u318, u319, u320, u321, u322, u323, u324, u325, u326, u327, u328, u329, u330, u331, u332, u333, u334, u335, u336, u337, u338, u339, u340, u341, u342, u343, u344, u345, u346, u347, u348, u349, u350, u351, u352, u353, u354, u355, u356, u357, u358, u359, u360, u361, u362, u363, u364, u365, u366, u367, u368, u369, u370, u371, u372, u373, .bool x374_123, undef, undef, undef, undef, undef, undef, undef, undef, undef, undef, undef, undef, undef, undef, undef, undef, undef, undef, undef, undef, undef, undef, undef, undef, undef, undef, undef, undef, undef, undef, undef, undef, undef, undef, undef, undef, undef, undef, undef, undef, undef, undef, undef, undef, undef, undef, undef, undef, undef, undef, undef, undef, undef, undef, undef, undef, undef, undef, undef, undef, undef, undef, undef, undef, undef, undef, undef, undef, undef, undef, undef, undef, undef, undef, undef, undef, undef, undef, undef, undef, undef, undef, undef, undef, undef, undef, undef, undef, undef, undef, undef, undef, undef, undef, undef, undef, undef, undef, undef, undef, undef, undef, undef, undef, undef, undef, undef, undef, undef, undef, undef, undef, undef, undef, undef, undef, undef, undef, undef, undef, undef, undef, undef, undef, undef, undef, undef, undef, undef, undef, undef, undef, undef, undef, undef, undef, undef, undef, undef, undef, undef, undef, undef, undef, undef, undef, undef, undef, undef, undef, undef, undef, undef, undef, undef, undef, undef, undef, undef, undef, undef, undef, undef, undef, undef, undef, undef, undef, undef], defers := [] } wc := by
 conv at x2_ in cdd _ _ => whnf
 conv in cdd _ _ => whnf
 try dsimp only
 try dsimp only at hJ2_
 cases kq with
 | zero => exact absurd HA.out (by simp [laws_FnRowsGuessedOfAll.j1])
 | succ kj123 =>
  have H := HA.out
  clear HA
  simp only [laws_FnRowsGuessedOfAll.j1] at H
  by_cases c163 : x374_123 = true
  ·subst c163
   rw [if_pos rfl] at H
   exact absurd (Option.some.inj H) (by rw [HRT.out]; decide)
  replace c163 := Bool.eq_false_iff.mpr c163
  subst c163
  rw [if_neg (show ¬ (false = true) by decide)] at H
  have H' := Aside0.mk H
  clear H
  obtain ⟨Ao164, co164, eo164⟩ := Kd.R_slice HO_5.out
  subst eo164
  go_wp2
  go_loopg [377] kj123 (fun kq v377 w' => ∃ (x377_3 : Int), v377 = .int .i64 x377_3 ∧ Aside0 (laws_FnRowsGuessedOfAll.l0 kq a1 t489 t497 t505 t513 t521 t529 t533 t489 (t489.length : Int) x377_3 a0_0 l0_1 = some r) ∧ Aside0 (kq ≤ kj123) ∧ Aside0 (Kd.R Kd.string 9 w' w.heap.size (fun _ => True) (.slice Ao164 t489.length co164) t489) ∧ Aside0 (Kd.R (Kd.int .i64) 3 w' w.heap.size (fun k_ => some k_ ≠ (v522 : Value).ownBlock) v514 t513) ∧ Aside0 (Kd.R (Kd.int .i64) 3 w' w.heap.size (fun k_ => some k_ ≠ (v514 : Value).ownBlock) v522 t521) ∧ Aside0 (Kd.R Kd.string 9 w' w.heap.size (fun _ => True) (.slice Ao164 t489.length co164) t489) ∧ Aside0 (w'.heap[gb488]? = some (.cells #[.int .i64 a0_0, (.slice A0_1 l0_1.length c0_1)] 24 (0, 0))) ∧ Aside0 (Below w.heap.size w w'))
  case atStart => exact ⟨(0), (rs), H', ⟨Nat.le_refl _⟩, ⟨pr HO_5⟩, ⟨pr HO_25⟩, ⟨pr HO_29⟩, ⟨pr HO_5⟩, ⟨pk BK488⟩, ⟨bw⟩⟩
  case round =>
   clear H'
   repeat (first|clear c16)
   obtain ⟨x377_3, rfl, HA, HK3, HO_5, HO_25, HO_29, HO_375, BK488, HB⟩ := hrel
   cases gk with
   | zero => exact absurd HA.out (by simp [laws_FnRowsGuessedOfAll.l0])
   | succ k3 =>
    have H := HA.out
    clear HA
    simp only [laws_FnRowsGuessedOfAll.l0] at H
    by_cases c165 : x377_3 < (t489.length : Int)
    ·rw [if_pos c165] at H
     have c165b0 := decide_eq_true c165
     clear c165
     replace H := oi H
     obtain ⟨c166, H⟩ := H
     have c166b0 := decide_eq_true c166
     clear c166
     replace H := oi H
     obtain ⟨c167, H⟩ := H
     have c167b0 := decide_eq_true c167
     clear c167
     have HC168 := Aside0.mk H
     clear H
     have p548 : 0 ≤ (x377_3 : Int) := of_decide_eq_true asm
     have q548 : x377_3 < (t489.length : Int) := of_decide_eq_true asm
     obtain ⟨ad548, e548, hx548_0⟩ := Kd.at_string (Kd.R_reads' HO_375.out).2.2 x377_3 p548 q548
     cases e548
     replace p548 := eq_true p548
     replace q548 := eq_true q548
     go_upto_region 29 with (fail)
     go_cut [378, 379, 380, 381, 404] from 9999 (fun _ _ _ _ v404 wc => ∃ (kq : Nat) (x404_167 : Bool), v404 = .bool x404_167 ∧ Aside0 (laws_FnRowsGuessedOfAll.j3 kq a1 t489 t497 t505 t513 t521 t529 t533 (rdOf ByteArray.empty t489 x377_3) t489 (t489.length : Int) x377_3 x404_167 a0_0 l0_1 = some r) ∧ Aside0 (kq ≤ k3) ∧ Aside0 (Kd.R Kd.string 9 wc w.heap.size (fun _ => True) (.slice (some ad548) t489.length co164) t489) ∧ Aside0 (Kd.R (Kd.int .i64) 3 wc w.heap.size (fun k_ => some k_ ≠ (v522 : Value).ownBlock) v514 t513) ∧ Aside0 (Kd.R (Kd.int .i64) 3 wc w.heap.size (fun k_ => some k_ ≠ (v514 : Value).ownBlock) v522 t521) ∧ Aside0 (Kd.R Kd.string 9 wc w.heap.size (fun _ => True) (.slice (some ad548) t489.length co164) t489) ∧ Aside0 (wc.heap[gb488]? = some (.cells #[.int .i64 a0_0, (.slice A0_1 l0_1.length c0_1)] 24 (0, 0))) ∧ Aside0 (Below w.heap.size w wc))
     case first =>
      rename_i J4_ K4_ hJ4_ hM4_
      have H := HC168.out
      clear HC168
      replace H := ob H
      obtain ⟨t549, A169, H⟩ := H
      (try dsimp only at H)
      replace H := ofr HRT H
      obtain ⟨c170, H⟩ := H
      subst c170
      replace H := ofr HRT H
      obtain ⟨c171, H⟩ := H
      have c171b0 : (((rdOf ByteArray.empty t489 x377_3).size : Int) == a0_0) = true := beq_iff_eq.mpr c171
      have c171b1 : (((rdOf ByteArray.empty t489 x377_3).size : Int) != a0_0) = false := bne_eq_false_iff_eq.mpr c171
      clear c171
      (first | rw [c171b0] | rw [@decide_eq_true _ _ (of_decide_eq_true c171b1)] | rw [@decide_eq_false _ _ (of_decide_eq_false c171b1)] | (simp only [i64_w, i32_w]; rw [c171b0]) | skip)
      by_cases c172 : x377_3 > 0
      ·rw [if_pos c172] at H
       have c172b0 := decide_eq_true c172
       clear c172
       obtain ⟨ji173, hji173⟩ : ∃ j_ : Int, (wrap64 (x377_3 - 1)) = j_ := ⟨_, rfl⟩
       replace H : (if 0 ≤ (ji173) then (if (ji173) < (t489.length : Int) then (laws_FnRowsGuessedOfAll.j3 k3 a1 t489 t497 t505 t513 t521 t529 t533 (rdOf ByteArray.empty t489 x377_3) t489 (t489.length : Int) x377_3 (!(Op.bytesLess ((rdOf ByteArray.empty t489 (ji173)).toList) ((rdOf ByteArray.empty t489 x377_3).toList))) a0_0 l0_1) else (none)) else (none)) = some r := by first | (rw [hji173] at H; exact H) | (simp only [hji173] at H ⊢; exact H)
       (try rw [hji173] at A169)
       have hji173w : (IntKind.i64.wrap (x377_3 - 1)) = ji173 := (i64_w _).trans hji173
       replace H := oi H
       obtain ⟨c174, H⟩ := H
       have c174b0 := decide_eq_true c174
       clear c174
       replace H := oi H
       obtain ⟨c175, H⟩ := H
       have c175b0 := decide_eq_true c175
       clear c175
       have H' := Aside0.mk H
       clear H
       go_wp2_with (first | ((with_reducible refine gc 26 ?_); refine gl (some 383) Tryz.func26 #[.string (rdOf ByteArray.empty t489 x377_3)] ?_; (with_reducible refine (impl_IsRow.calls (rdOf ByteArray.empty t489 x377_3) true _ A169.out).mono ?_); rintro e w176 ⟨rfl, hb⟩; refine ⟨_, rfl, ?_⟩; replace HO_5 := rl HO_5 hb; replace HO_25 := rl HO_25 hb; replace HO_29 := rl HO_29 hb; replace HO_375 := rl HO_375 hb; replace BK488 := nk BK488 hb; replace HB := bs hb; (try clear hb); obtain ⟨hcz177_0, hcz177_1, hfz177_0, hfz177_1⟩ := z2 BK488; have p550 : 0 ≤ ((ji173) : Int) := of_decide_eq_true asm; have q550 : (ji173) < (t489.length : Int) := of_decide_eq_true asm; obtain ⟨ad550, e550, hx550_0⟩ := Kd.at_string (Kd.R_reads' HO_5.out).2.2 (ji173) p550 q550; obtain rfl : ad548 = ad550 := (by injection e550); replace p550 := eq_true p550; replace q550 := eq_true q550))
       go_meet
       case rel => exact ⟨_, (!(Op.bytesLess ((rdOf ByteArray.empty t489 (ji173)).toList) ((rdOf ByteArray.empty t489 x377_3).toList))), (by first | rfl | (simp; done) | (simp only [← hji173] <;> (first | rfl | simp)) | (simp [*]; done)), H', ⟨by have := HJ22.out; have := HJ123.out; have := HK3.out; first | omega | exact Nat.le_refl _⟩, ⟨pr HO_5⟩, ⟨pr HO_25⟩, ⟨pr HO_29⟩, ⟨pr HO_375⟩, ⟨pk BK488⟩, ⟨bw⟩⟩
      rw [if_neg c172] at H
      have c172b0 := decide_eq_false c172
      clear c172
      have H' := Aside0.mk H
      clear H
      go_wp2_with (first | ((with_reducible refine gc 26 ?_); refine gl (some 383) Tryz.func26 #[.string (rdOf ByteArray.empty t489 x377_3)] ?_; (with_reducible refine (impl_IsRow.calls (rdOf ByteArray.empty t489 x377_3) true _ A169.out).mono ?_); rintro e w178 ⟨rfl, hb⟩; refine ⟨_, rfl, ?_⟩; replace HO_5 := rl HO_5 hb; replace HO_25 := rl HO_25 hb; replace HO_29 := rl HO_29 hb; replace HO_375 := rl HO_375 hb; replace BK488 := nk BK488 hb; replace HB := bs hb; (try clear hb); obtain ⟨hcz179_0, hcz179_1, hfz179_0, hfz179_1⟩ := z2 BK488))
      go_meet
      case rel => exact ⟨_, (false), (rs), H', ⟨by have := HJ22.out; have := HJ123.out; have := HK3.out; first | omega | exact Nat.le_refl _⟩, ⟨pr HO_5⟩, ⟨pr HO_25⟩, ⟨pr HO_29⟩, ⟨pr HO_375⟩, ⟨pk BK488⟩, ⟨bw⟩⟩
     case rest =>
      clear HC168
      repeat (first|clear c17|clear c26|clear p55|clear q55|clear hx55|clear c165|clear c165b0|clear c166|clear c166b0|clear c167|clear c167b0|clear c171|clear c171b0|clear c171b1|clear c172|clear c172b0|clear c174|clear c174b0|clear c175|clear c175b0|clear hcz177_0|clear hcz177_1|clear hcz179_0|clear hcz179_1|clear hfz177_0|clear hfz177_1|clear hfz179_0|clear hfz179_1|clear hx548_0|clear hx550_0|clear p548|clear p550|clear q548|clear q550)
      obtain ⟨kq, x404_167, rfl, HA, HJ167, HO_5, HO_25, HO_29, HO_375, BK488, HB⟩ := hcut
      cases kq with
      | zero => exact absurd HA.out (by simp [laws_FnRowsGuessedOfAll.j3])
      | succ kj167 =>
       have H := HA.out
       clear HA
       simp only [laws_FnRowsGuessedOfAll.j3] at H
       by_cases c180 : x404_167 = true
       ·subst c180
        rw [if_pos rfl] at H
        exact absurd (Option.some.inj H) (by rw [HRT.out]; decide)
       replace c180 := Bool.eq_false_iff.mpr c180
       subst c180
       rw [if_neg (show ¬ (false = true) by decide)] at H
       have H' := Aside0.mk H
       clear H
       have hcz181_0 : wc.cell? ⟨gb488, 0, none⟩ = some (.int .i64 a0_0) := ec BK488
       have hcz181_1 : wc.cell? ⟨gb488, 1, none⟩ = some (.slice A0_1 l0_1.length c0_1) := ec BK488
       have hfz181_0 := blk_frozen BK488.out 0
       have hfz181_1 := blk_frozen BK488.out 1
       go_wp2
       go_loopg [408] kj167 (fun kq v408 w' => ∃ (x408_5 : Int), v408 = .int .i64 x408_5 ∧ Aside0 (laws_FnRowsGuessedOfAll.l1 kq a1 t489 t497 t505 t513 t521 t529 t533 (rdOf ByteArray.empty t489 x377_3) t489 (t489.length : Int) x377_3 l0_1 (l0_1.length : Int) x408_5 a0_0 l0_1 = some r) ∧ Aside0 (kq ≤ kj167) ∧ Aside0 (Kd.R Kd.string 9 w' w.heap.size (fun _ => True) (.slice (some ad548) t489.length co164) t489) ∧ Aside0 (Kd.R (Kd.int .i64) 3 w' w.heap.size (fun k_ => some k_ ≠ (v522 : Value).ownBlock) v514 t513) ∧ Aside0 (Kd.R (Kd.int .i64) 3 w' w.heap.size (fun k_ => some k_ ≠ (v514 : Value).ownBlock) v522 t521) ∧ Aside0 (Kd.R Kd.string 9 w' w.heap.size (fun _ => True) (.slice (some ad548) t489.length co164) t489) ∧ Aside0 (w'.heap[gb488]? = some (.cells #[.int .i64 a0_0, (.slice A0_1 l0_1.length c0_1)] 24 (0, 0))) ∧ Aside0 (Below w.heap.size w w'))
       case atStart => exact ⟨(0), (rs), H', ⟨Nat.le_refl _⟩, ⟨pr HO_5⟩, ⟨pr HO_25⟩, ⟨pr HO_29⟩, ⟨pr HO_375⟩, ⟨pk BK488⟩, ⟨bw⟩⟩
       case round =>
        clear H'
        repeat (first|clear c18|clear hcz181_0|clear hcz181_1|clear hfz181_0|clear hfz181_1)
        obtain ⟨x408_5, rfl, HA, HK5, HO_5, HO_25, HO_29, HO_375, BK488, HB⟩ := hrel
        cases gk with
        | zero => exact absurd HA.out (by simp [laws_FnRowsGuessedOfAll.l1])
        | succ k5 =>
         have H := HA.out
         clear HA
         simp only [laws_FnRowsGuessedOfAll.l1] at H
         by_cases c182 : x408_5 < (l0_1.length : Int)
         ·rw [if_pos c182] at H
          have c182b0 := decide_eq_true c182
          clear c182
          replace H := oi H
          obtain ⟨c183, H⟩ := H
          have c183b0 := decide_eq_true c183
          clear c183
          replace H := oi H
          obtain ⟨c184, H⟩ := H
          have c184b0 := decide_eq_true c184
          clear c184
          replace H := ob H
          obtain ⟨⟨t553, t554⟩, A185, H⟩ := H
          (try dsimp only at H)
          replace H := ofr HRT H
          obtain ⟨c186, H⟩ := H
          subst c186
          replace H := ofr HRT H
          obtain ⟨c187, H⟩ := H
          subst c187
          have H' := Aside0.mk H
          clear H
          have p551 : 0 ≤ (x408_5 : Int) := of_decide_eq_true asm
          have q551 : x408_5 < (l0_1.length : Int) := of_decide_eq_true asm
          obtain ⟨ad551, e551, hx551_0, hx551_1, hx551_2, hx551_3⟩ := at_T42 HR0_1.out x408_5 p551 q551
          cases e551
          replace hx551_0 := (HB.out.cell (World.block_lt_of_cell? w _ hx551_0)).trans hx551_0
          replace hx551_1 := (HB.out.cell (World.block_lt_of_cell? w _ hx551_1)).trans hx551_1
          replace hx551_2 := (HB.out.cell (World.block_lt_of_cell? w _ hx551_2)).trans hx551_2
          replace hx551_3 := (HB.out.cell (World.block_lt_of_cell? w _ hx551_3)).trans hx551_3
          replace p551 := eq_true p551
          replace q551 := eq_true q551
          go_wp2_with (first | ((with_reducible refine gd 44 ?_); (try (refine gate_guard (by rfl) ?_; dsimp only)); refine bx 44 42 #[.int .i64 0, .int .i64 0, .int .i64 0, .int .i64 0] ?_; intro gb552 hg w188 hbox hb; replace HO_5 := rl HO_5 hb; replace HO_25 := rl HO_25 hb; replace HO_29 := rl HO_29 hb; replace HO_375 := rl HO_375 hb; have BK552 := hbox; have GW552 := gs hg; have GE552 := gs hg; replace HB := bs hb; have ⟨NB488_552, NB552_488⟩ := nn BK488 hg; replace BK488 := nk BK488 hb; clear hb hbox hg; have hnb189 := nb NB552_488; obtain ⟨hcz190_0, hcz190_1, hcz190_2, hcz190_3, hfz190_0, hfz190_1, hfz190_2, hfz190_3⟩ := z4 BK552) | ((with_reducible refine gc 27 ?_); refine gl (some 415) Tryz.func27 #[.agg #[.int .i64 ((rd_T42 l0_1 x408_5).f0), .int .i64 ((rd_T42 l0_1 x408_5).f1), .int .i64 ((rd_T42 l0_1 x408_5).f2), .int .i64 ((rd_T42 l0_1 x408_5).f3)], .string (rdOf ByteArray.empty t489 x377_3)] ?_; (with_reducible refine (impl_DoesFit.calls k5 ((rd_T42 l0_1 x408_5).f0) ((rd_T42 l0_1 x408_5).f1) ((rd_T42 l0_1 x408_5).f2) ((rd_T42 l0_1 x408_5).f3) (rdOf ByteArray.empty t489 x377_3) true true _ ?_ A185.out).mono ?_); exact Dr.mm HMM; rintro e w191 ⟨rfl, hb⟩; refine ⟨_, rfl, ?_⟩; replace HO_5 := Aside0.mk (Kd.R_below (by (with_reducible repeat (first | apply Kd.R_alloc | apply Kd.R_drewN | apply Kd.R_drew)); exact (Kd.R_mono (Kd.R_far (p := ⟨gb552, 3, none⟩) (Kd.R_far (p := ⟨gb552, 2, none⟩) (Kd.R_far (p := ⟨gb552, 1, none⟩) (Kd.R_far (p := ⟨gb552, 0, none⟩) (Kd.R_types HO_5.out BK552.out (by decide)) (fun _ hk => hk.2) (.int .i64 ((rd_T42 l0_1 x408_5).f0))) (fun _ hk => hk.2) (.int .i64 ((rd_T42 l0_1 x408_5).f1))) (fun _ hk => hk.2) (.int .i64 ((rd_T42 l0_1 x408_5).f2))) (fun _ hk => hk.2) (.int .i64 ((rd_T42 l0_1 x408_5).f3))) (fun _ h_ => h_.1))) hb); replace HO_25 := Aside0.mk (Kd.R_below (by (with_reducible repeat (first | apply Kd.R_alloc | apply Kd.R_drewN | apply Kd.R_drew)); exact (Kd.R_mono (Kd.R_far (p := ⟨gb552, 3, none⟩) (Kd.R_far (p := ⟨gb552, 2, none⟩) (Kd.R_far (p := ⟨gb552, 1, none⟩) (Kd.R_far (p := ⟨gb552, 0, none⟩) (Kd.R_types HO_25.out BK552.out (by decide)) (fun _ hk => hk.2) (.int .i64 ((rd_T42 l0_1 x408_5).f0))) (fun _ hk => hk.2) (.int .i64 ((rd_T42 l0_1 x408_5).f1))) (fun _ hk => hk.2) (.int .i64 ((rd_T42 l0_1 x408_5).f2))) (fun _ hk => hk.2) (.int .i64 ((rd_T42 l0_1 x408_5).f3))) (fun _ h_ => h_.1))) hb); replace HO_29 := Aside0.mk (Kd.R_below (by (with_reducible repeat (first | apply Kd.R_alloc | apply Kd.R_drewN | apply Kd.R_drew)); exact (Kd.R_mono (Kd.R_far (p := ⟨gb552, 3, none⟩) (Kd.R_far (p := ⟨gb552, 2, none⟩) (Kd.R_far (p := ⟨gb552, 1, none⟩) (Kd.R_far (p := ⟨gb552, 0, none⟩) (Kd.R_types HO_29.out BK552.out (by decide)) (fun _ hk => hk.2) (.int .i64 ((rd_T42 l0_1 x408_5).f0))) (fun _ hk => hk.2) (.int .i64 ((rd_T42 l0_1 x408_5).f1))) (fun _ hk => hk.2) (.int .i64 ((rd_T42 l0_1 x408_5).f2))) (fun _ hk => hk.2) (.int .i64 ((rd_T42 l0_1 x408_5).f3))) (fun _ h_ => h_.1))) hb); replace HO_375 := Aside0.mk (Kd.R_below (by (with_reducible repeat (first | apply Kd.R_alloc | apply Kd.R_drewN | apply Kd.R_drew)); exact (Kd.R_mono (Kd.R_far (p := ⟨gb552, 3, none⟩) (Kd.R_far (p := ⟨gb552, 2, none⟩) (Kd.R_far (p := ⟨gb552, 1, none⟩) (Kd.R_far (p := ⟨gb552, 0, none⟩) (Kd.R_types HO_375.out BK552.out (by decide)) (fun _ hk => hk.2) (.int .i64 ((rd_T42 l0_1 x408_5).f0))) (fun _ hk => hk.2) (.int .i64 ((rd_T42 l0_1 x408_5).f1))) (fun _ hk => hk.2) (.int .i64 ((rd_T42 l0_1 x408_5).f2))) (fun _ hk => hk.2) (.int .i64 ((rd_T42 l0_1 x408_5).f3))) (fun _ h_ => h_.1))) hb); replace BK488 := nf BK488 hb; replace BK552 := Aside0.mk (blk_below (g := gb552) (o := .cells #[.int .i64 ((rd_T42 l0_1 x408_5).f0), .int .i64 ((rd_T42 l0_1 x408_5).f1), .int .i64 ((rd_T42 l0_1 x408_5).f2), .int .i64 ((rd_T42 l0_1 x408_5).f3)] 42 (0, 0)) (pz BK552) hb); replace HB := bs hb; (try clear hb)))
          go_roundg k5
          case measure => have := HJ22.out; have := HJ123.out; have := HK3.out; have := HJ167.out; have := HK5.out; omega
          case rel => exact ⟨(wrap64 (x408_5 + 1)), (rs), H', ⟨by have := HJ22.out; have := HJ123.out; have := HK3.out; have := HJ167.out; have := HK5.out; omega⟩, ⟨pr HO_5⟩, ⟨pr HO_25⟩, ⟨pr HO_29⟩, ⟨pr HO_375⟩, ⟨pk BK488⟩, ⟨bw⟩⟩
         rw [if_neg c182] at H
         have c182b0 := decide_eq_false c182
         clear c182
         have H' := Aside0.mk H
         clear H
         go_wp2_with (first | ((with_reducible refine gd 426 ?_); (try (refine gate_guard (by rfl) ?_; dsimp only)); refine iter_event ?hg (N := 426) ?hd (s := (rdOf ByteArray.empty t489 x377_3)) ?hx Tryz.underlying9 ?_; (case hd => rfl); (case hg => rfl); (case hx => exact ⟨_, rfl, by first | rfl | (go_simp; done) | (go_simp; rfl)⟩); intro gb555 hg w192 hbox hb; replace HO_5 := rl HO_5 hb; replace HO_25 := rl HO_25 hb; replace HO_29 := rl HO_29 hb; replace HO_375 := rl HO_375 hb; have IT555 := Aside0.mk (hbox); have GW555 := gs hg; have GE555 := gs hg; replace HB := bs hb; have ⟨NB488_555, NB555_488⟩ := nn BK488 hg; replace BK488 := nk BK488 hb; clear hb hbox hg))
         (try simp only [Act.put, List.setIfInBounds_toArray, List.set_cons_zero, List.set_cons_succ])
         go_loopg [] k5 (fun kq w' => ∃ (x556000_6 : Int), Aside0 (laws_FnRowsGuessedOfAll.l2 kq a1 t489 t497 t505 t513 t521 t529 t533 (rdOf ByteArray.empty t489 x377_3) t489 (t489.length : Int) x377_3 a0_0 l0_1 x556000_6 (rdOf ByteArray.empty t489 x377_3) = some r) ∧ Aside0 (kq ≤ k5) ∧ Aside0 (Kd.R Kd.string 9 w' w.heap.size (fun _ => True) (.slice (some ad548) t489.length co164) t489) ∧ Aside0 (Kd.R (Kd.int .i64) 3 w' w.heap.size (fun k_ => some k_ ≠ (v522 : Value).ownBlock) v514 t513) ∧ Aside0 (Kd.R (Kd.int .i64) 3 w' w.heap.size (fun k_ => some k_ ≠ (v514 : Value).ownBlock) v522 t521) ∧ Aside0 (Kd.R Kd.string 9 w' w.heap.size (fun _ => True) (.slice (some ad548) t489.length co164) t489) ∧ Aside0 (w'.heap[gb488]? = some (.cells #[.int .i64 a0_0, (.slice A0_1 l0_1.length c0_1)] 24 (0, 0))) ∧ Aside0 (w'.heap[gb555]? = some (.stringIter (rdOf ByteArray.empty t489 x377_3) (x556000_6 : Int).toNat)) ∧ Aside0 (Below w.heap.size w w'))
         case atStart => exact ⟨(0), H', ⟨Nat.le_refl _⟩, ⟨pr HO_5⟩, ⟨pr HO_25⟩, ⟨pr HO_29⟩, ⟨pr HO_375⟩, ⟨pk BK488⟩, ⟨by (with_reducible repeat (first | apply b1 | apply b2 | apply b3)); exact IT555.out⟩, ⟨bw⟩⟩
         case round =>
          clear H'
          repeat (first|clear c27|clear c182|clear c182b0|clear c183|clear c183b0|clear c184|clear c184b0|clear c189|clear hcz190_0|clear hcz190_1|clear hcz190_2|clear hcz190_3|clear hfz190_0|clear hfz190_1|clear hfz190_2|clear hfz190_3|clear hx551_0|clear hx551_1|clear hx551_2|clear hx551_3|clear p551|clear q551)
          obtain ⟨x556000_6, HA, HK6, HO_5, HO_25, HO_29, HO_375, BK488, IT555, HB⟩ := hrel
          cases gk with
          | zero => exact absurd HA.out (by simp [laws_FnRowsGuessedOfAll.l2])
          | succ k6 =>
           have H := HA.out
           clear HA
           simp only [laws_FnRowsGuessedOfAll.l2] at H
           by_cases c193 : x556000_6 < ((rdOf ByteArray.empty t489 x377_3).size : Int)
           ·rw [if_pos c193] at H
            have c193b0 := decide_eq_true c193
            clear c193
            replace H := oi H
            obtain ⟨c194, H⟩ := H
            have c194b0 := eq_true c194
            have c194b1 := decide_eq_true c194
            clear c194
            replace H := oi H
            obtain ⟨c195, H⟩ := H
            have c195b0 := eq_true c195
            have c195b1 := decide_eq_true c195
            clear c195
            replace H := oi H
            obtain ⟨c196, H⟩ := H
            have c196b0 := decide_eq_true c196
            clear c196
            by_cases c198 : (bt t505 x556000_6) = 63
            ·rw [if_pos c198] at H
             have c198b0 : ((bt t505 x556000_6) == 63) = true := beq_iff_eq.mpr c198
             have c198b1 : ((bt t505 x556000_6) != 63) = false := bne_eq_false_iff_eq.mpr c198
             clear c198
             have H' := Aside0.mk H
             clear H
             try go_wp2_with (first | ((with_reducible refine gd 427 ?_); (try (refine gate_guard (by rfl) ?_; dsimp only)); refine next_event ?hg (N := 427) ?hd (g := gb555) (s := (rdOf ByteArray.empty t489 x377_3)) (p := x556000_6) ?hx ?hb ?h0 ?h1 ?h2 ?_; (case hd => rfl); (case hg => rfl); (case hx => exact ⟨_, rfl, by first | rfl | (go_simp; done) | (go_simp; rfl)⟩); (case hb => exact (by (with_reducible repeat (first | apply b1 | apply b2 | apply b3)); exact IT555.out)); (case h0 => first | (with_reducible decide) | exact of_decide_eq_true asm); (case h1 => exact of_decide_eq_true asm); (case h2 => exact of_decide_eq_true asm); intro w199 hbox hk; replace HO_5 := Aside0.mk (Kd.R_turned (pr HO_5) (by (with_reducible repeat (first | apply b1 | apply b2 | apply b3)); exact IT555.out) hk); replace HO_25 := Aside0.mk (Kd.R_turned (pr HO_25) (by (with_reducible repeat (first | apply b1 | apply b2 | apply b3)); exact IT555.out) hk); replace HO_29 := Aside0.mk (Kd.R_turned (pr HO_29) (by (with_reducible repeat (first | apply b1 | apply b2 | apply b3)); exact IT555.out) hk); replace HO_375 := Aside0.mk (Kd.R_turned (pr HO_375) (by (with_reducible repeat (first | apply b1 | apply b2 | apply b3)); exact IT555.out) hk); replace BK488 := Aside0.mk (hk.blk (o := .cells #[.int .i64 a0_0, .slice A0_1 l0_1.length c0_1] 24 (0, 0)) (pk BK488) NB488_555.out); replace IT555 := Aside0.mk (hbox); replace HB := Aside0.mk (below_turned bw GE555.out hk); clear hbox hk))
             replace HO_5 := Aside0.mk (Kd.R_drew HO_5.out)
             replace HO_25 := Aside0.mk (Kd.R_drew HO_25.out)
             replace HO_29 := Aside0.mk (Kd.R_drew HO_29.out)
             replace HO_375 := Aside0.mk (Kd.R_drew HO_375.out)
             replace BK488 := Aside0.mk (blk_drew BK488.out)
             replace IT555 := Aside0.mk (blk_drew IT555.out)
             replace HB := Aside0.mk (below_drew1 HB.out)
             have p197 : 0 ≤ (x556000_6 : Int) := of_decide_eq_true asm
             have q197 : x556000_6 < (t505.size : Int) := of_decide_eq_true asm
             have hx197 := bt_at t505 x556000_6
             replace p197 := eq_true p197
             replace q197 := eq_true q197
             refine start_ (n := 13) (S := fun w' => True) (ds := []) (tb 13 0) (by kernel_rfl) rfl rfl trivial (fun hHeld => ?_); refine with_tabW laws_FnRowsGuessedOfAll.tab41 laws_FnRowsGuessedOfAll.bits41 (fun HT_ HW_ => ?_)
             generalize w199.drew = w200 at HO_5 HO_25 HO_29 HO_375 BK488 IT555 HB hHeld ⊢
             refine pu 0 (some 430) (tb 13 1) ?_
             refine pu 1 (some 431) (tb 13 3) ?_
             refine take_ (i := 2) (N := some 432) (v := ?_) (a' := ?_) (tb 13 7) rfl rfl (take_ofW HT_.out HW_.out (by kernel_rfl)) (fun _ _ _ h => h) (Or.inl ⟨by rfl, ?_⟩) hHeld ?_ ?_
             rotate_left
             ·intro w' _
              go_simp
              with_reducible rfl
             rotate_left
             ·simp only [Act.put, List.setIfInBounds_toArray, List.set_cons_zero, List.set_cons_succ, i64_w, i32_w]
              rfl
             refine pu 3 (some 433) (tb 13 15) ?_
             refine pu 4 (some 434) (tb 13 31) ?_
             refine pure_ (i := 5) (N := some 435) (v := undef) (a' := ?_) (tb 13 63) rfl rfl (any_of HT_.out (by kernel_rfl)) (fun _ _ _ h => h) (Or.inr ⟨by rfl, rfl⟩) ?_ ?_
             rotate_left
             ·simp only [Act.put, List.setIfInBounds_toArray, List.set_cons_zero, List.set_cons_succ, i64_w, i32_w]
              rfl
             refine pure_ (i := 6) (N := some 436) (v := undef) (a' := ?_) (tb 13 127) rfl rfl (any_of HT_.out (by kernel_rfl)) (fun _ _ _ h => h) (Or.inr ⟨by rfl, rfl⟩) ?_ ?_
             rotate_left
             ·simp only [Act.put, List.setIfInBounds_toArray, List.set_cons_zero, List.set_cons_succ, i64_w, i32_w]
              rfl
             refine pure_ (i := 7) (N := some 437) (v := undef) (a' := ?_) (tb 13 255) rfl rfl (any_of HT_.out (by kernel_rfl)) (fun _ _ _ h => h) (Or.inr ⟨by rfl, rfl⟩) ?_ ?_
             rotate_left
             ·simp only [Act.put, List.setIfInBounds_toArray, List.set_cons_zero, List.set_cons_succ, i64_w, i32_w]
              rfl
             refine pure_ (i := 8) (N := some 438) (v := undef) (a' := ?_) (tb 13 511) rfl rfl (any_of HT_.out (by kernel_rfl)) (fun _ _ _ h => h) (Or.inr ⟨by rfl, rfl⟩) ?_ ?_
             rotate_left
             ·simp only [Act.put, List.setIfInBounds_toArray, List.set_cons_zero, List.set_cons_succ, i64_w, i32_w]
              rfl
             refine pure_ (i := 9) (N := some 439) (v := undef) (a' := ?_) (tb 13 1023) rfl rfl (any_of HT_.out (by kernel_rfl)) (fun _ _ _ h => h) (Or.inr ⟨by rfl, rfl⟩) ?_ ?_
             rotate_left
             ·simp only [Act.put, List.setIfInBounds_toArray, List.set_cons_zero, List.set_cons_succ, i64_w, i32_w]
              rfl
             refine pure_ (i := 10) (N := some 440) (v := undef) (a' := ?_) (tb 13 2047) rfl rfl (any_of HT_.out (by kernel_rfl)) (fun _ _ _ h => h) (Or.inr ⟨by rfl, rfl⟩) ?_ ?_
             rotate_left
             ·simp only [Act.put, List.setIfInBounds_toArray, List.set_cons_zero, List.set_cons_succ, i64_w, i32_w]
              rfl
             refine pure_ (i := 11) (N := some 441) (v := undef) (a' := ?_) (tb 13 4095) rfl rfl (any_of HT_.out (by kernel_rfl)) (fun _ _ _ h => h) (Or.inr ⟨by rfl, rfl⟩) ?_ ?_
             rotate_left
             ·simp only [Act.put, List.setIfInBounds_toArray, List.set_cons_zero, List.set_cons_succ, i64_w, i32_w]
              rfl
             refine pu 12 (some 442) (tb 13 8191) ?_
             refine done_ (done_of HT_.out (by kernel_rfl)) ?_
             try go_wp2
             go_roundg k6
             case measure => have := HJ22.out; have := HJ123.out; have := HK3.out; have := HJ167.out; have := HK5.out; have := HK6.out; omega
             case rel => exact ⟨(x556000_6 + 1), H', ⟨by have := HJ22.out; have := HJ123.out; have := HK3.out; have := HJ167.out; have := HK5.out; have := HK6.out; omega⟩, ⟨pr HO_5⟩, ⟨pr HO_25⟩, ⟨pr HO_29⟩, ⟨pr HO_375⟩, ⟨pk BK488⟩, ⟨by (with_reducible repeat (first | apply b1 | apply b2 | apply b3)); exact IT555.out⟩, ⟨bw⟩⟩
            rw [if_neg c198] at H
            have c198b0 : ((bt t505 x556000_6) == 63) = false := beq_eq_false_iff_ne.mpr c198
            have c198b1 : ((bt t505 x556000_6) != 63) = true := bne_iff_ne.mpr c198
            replace H := oi H
            obtain ⟨c202, H⟩ := H
            have c202b0 := decide_eq_true c202
            clear c202
            replace H := ofr HRT H
            obtain ⟨c204, H⟩ := H
            have c204b0 : ((bt t505 x556000_6) == (bt (rdOf ByteArray.empty t489 x377_3) x556000_6)) = true := beq_iff_eq.mpr c204
            have c204b1 : ((bt t505 x556000_6) != (bt (rdOf ByteArray.empty t489 x377_3) x556000_6)) = false := bne_eq_false_iff_eq.mpr c204
            clear c204
            have H' := Aside0.mk H
            clear H
            try go_wp2_with (first | ((with_reducible refine gd 427 ?_); (try (refine gate_guard (by rfl) ?_; dsimp only)); refine next_event ?hg (N := 427) ?hd (g := gb555) (s := (rdOf ByteArray.empty t489 x377_3)) (p := x556000_6) ?hx ?hb ?h0 ?h1 ?h2 ?_; (case hd => rfl); (case hg => rfl); (case hx => exact ⟨_, rfl, by first | rfl | (go_simp; done) | (go_simp; rfl)⟩); (case hb => exact (by (with_reducible repeat (first | apply b1 | apply b2 | apply b3)); exact IT555.out)); (case h0 => first | (with_reducible decide) | exact of_decide_eq_true asm); (case h1 => exact of_decide_eq_true asm); (case h2 => exact of_decide_eq_true asm); intro w205 hbox hk; replace HO_5 := Aside0.mk (Kd.R_turned (pr HO_5) (by (with_reducible repeat (first | apply b1 | apply b2 | apply b3)); exact IT555.out) hk); replace HO_25 := Aside0.mk (Kd.R_turned (pr HO_25) (by (with_reducible repeat (first | apply b1 | apply b2 | apply b3)); exact IT555.out) hk); replace HO_29 := Aside0.mk (Kd.R_turned (pr HO_29) (by (with_reducible repeat (first | apply b1 | apply b2 | apply b3)); exact IT555.out) hk); replace HO_375 := Aside0.mk (Kd.R_turned (pr HO_375) (by (with_reducible repeat (first | apply b1 | apply b2 | apply b3)); exact IT555.out) hk); replace BK488 := Aside0.mk (hk.blk (o := .cells #[.int .i64 a0_0, .slice A0_1 l0_1.length c0_1] 24 (0, 0)) (pk BK488) NB488_555.out); replace IT555 := Aside0.mk (hbox); replace HB := Aside0.mk (below_turned bw GE555.out hk); clear hbox hk))
            replace HO_5 := Aside0.mk (Kd.R_drew HO_5.out)
            replace HO_25 := Aside0.mk (Kd.R_drew HO_25.out)
            replace HO_29 := Aside0.mk (Kd.R_drew HO_29.out)
            replace HO_375 := Aside0.mk (Kd.R_drew HO_375.out)
            replace BK488 := Aside0.mk (blk_drew BK488.out)
            replace IT555 := Aside0.mk (blk_drew IT555.out)
            replace HB := Aside0.mk (below_drew1 HB.out)
            have p197 : 0 ≤ (x556000_6 : Int) := of_decide_eq_true asm
            have q197 : x556000_6 < (t505.size : Int) := of_decide_eq_true asm
            have hx197 := bt_at t505 x556000_6
            replace p197 := eq_true p197
            replace q197 := eq_true q197
            have p201 : 0 ≤ (x556000_6 : Int) := of_decide_eq_true asm
            have q201 : x556000_6 < (t505.size : Int) := of_decide_eq_true asm
            have hx201 := bt_at t505 x556000_6
            replace p201 := eq_true p201
            replace q201 := eq_true q201
            have p203 : 0 ≤ (x556000_6 : Int) := of_decide_eq_true asm
            have q203 : x556000_6 < ((rdOf ByteArray.empty t489 x377_3).size : Int) := of_decide_eq_true asm
            have hx203 := bt_at (rdOf ByteArray.empty t489 x377_3) x556000_6
            replace p203 := eq_true p203
            replace q203 := eq_true q203
            refine start_ (n := 13) (S := fun w' => True) (ds := []) (tb 13 0) (by kernel_rfl) rfl rfl trivial (fun hHeld => ?_); refine with_tabW laws_FnRowsGuessedOfAll.tab41 laws_FnRowsGuessedOfAll.bits41 (fun HT_ HW_ => ?_)
            generalize w205.drew = w206 at HO_5 HO_25 HO_29 HO_375 BK488 IT555 HB hHeld ⊢
            refine pu 0 (some 430) (tb 13 1) ?_
            refine pu 1 (some 431) (tb 13 3) ?_
            refine take_ (i := 2) (N := some 432) (v := ?_) (a' := ?_) (tb 13 7) rfl rfl (take_ofW HT_.out HW_.out (by kernel_rfl)) (fun _ _ _ h => h) (Or.inl ⟨by rfl, ?_⟩) hHeld ?_ ?_
            rotate_left
            ·intro w' _
             go_simp
             with_reducible rfl
            rotate_left
            ·simp only [Act.put, List.setIfInBounds_toArray, List.set_cons_zero, List.set_cons_succ, i64_w, i32_w]
             rfl
            refine pu 3 (some 433) (tb 13 15) ?_
            refine pu 4 (some 434) (tb 13 31) ?_
            refine pu 5 (some 435) (tb 13 63) ?_
            refine pu 6 (some 436) (tb 13 127) ?_
            refine pu 8 (some 438) (tb 13 383) ?_
            refine pu 9 (some 439) (tb 13 895) ?_
            refine take_ (i := 7) (N := some 437) (v := ?_) (a' := ?_) (tb 13 1023) rfl rfl (take_ofW HT_.out HW_.out (by kernel_rfl)) (fun _ _ _ h => h) (Or.inl ⟨by rfl, ?_⟩) hHeld ?_ ?_
            rotate_left
            ·intro w' _
             go_simp
             with_reducible rfl
            rotate_left
            ·simp only [Act.put, List.setIfInBounds_toArray, List.set_cons_zero, List.set_cons_succ, i64_w, i32_w]
             rfl
            refine take_ (i := 10) (N := some 440) (v := ?_) (a' := ?_) (tb 13 2047) rfl rfl (take_ofW HT_.out HW_.out (by kernel_rfl)) (fun _ _ _ h => h) (Or.inl ⟨by rfl, ?_⟩) hHeld ?_ ?_
            rotate_left
            ·intro w' _
             go_simp
             with_reducible rfl
            rotate_left
            ·simp only [Act.put, List.setIfInBounds_toArray, List.set_cons_zero, List.set_cons_succ, i64_w, i32_w]
             rfl
            refine pu 11 (some 441) (tb 13 4095) ?_
            refine pu 12 (some 442) (tb 13 8191) ?_
            refine done_ (done_of HT_.out (by kernel_rfl)) ?_
            try go_wp2
            go_roundg k6
            case measure => have := HJ22.out; have := HJ123.out; have := HK3.out; have := HJ167.out; have := HK5.out; have := HK6.out; omega
            case rel => exact ⟨(x556000_6 + 1), H', ⟨by have := HJ22.out; have := HJ123.out; have := HK3.out; have := HJ167.out; have := HK5.out; have := HK6.out; omega⟩, ⟨pr HO_5⟩, ⟨pr HO_25⟩, ⟨pr HO_29⟩, ⟨pr HO_375⟩, ⟨pk BK488⟩, ⟨by (with_reducible repeat (first | apply b1 | apply b2 | apply b3)); exact IT555.out⟩, ⟨bw⟩⟩
           rw [if_neg c193] at H
           have c193b0 := decide_eq_false c193
           clear c193
           have H' := Aside0.mk H
           clear H
           go_wp2_with (first | ((with_reducible refine gd 427 ?_); (try (refine gate_guard (by rfl) ?_; dsimp only)); refine next_end_event ?hg (N := 427) ?hd (g := gb555) (s := (rdOf ByteArray.empty t489 x377_3)) (p := x556000_6) ?hx ?hb ?h1 ?_; (case hd => rfl); (case hg => rfl); (case hx => exact ⟨_, rfl, by first | rfl | (go_simp; done) | (go_simp; rfl)⟩); (case hb => exact (by (with_reducible repeat (first | apply b1 | apply b2 | apply b3)); exact IT555.out)); (case h1 => exact of_decide_eq_false asm)))
           go_roundg k6
           case measure => have := HJ22.out; have := HJ123.out; have := HK3.out; have := HJ167.out; have := HK5.out; have := HK6.out; omega
           case rel => exact ⟨(wrap64 (x377_3 + 1)), (rs), H', ⟨by have := HJ22.out; have := HJ123.out; have := HK3.out; have := HJ167.out; have := HK5.out; have := HK6.out; omega⟩, ⟨pr HO_5⟩, ⟨pr HO_25⟩, ⟨pr HO_29⟩, ⟨pr HO_375⟩, ⟨pk BK488⟩, ⟨bw⟩⟩
    rw [if_neg c165] at H
    have c165b0 := decide_eq_false c165
    clear c165
    have H' := Aside0.mk H
    clear H
    have hcz207_0 : wr.cell? ⟨gb488, 0, none⟩ = some (.int .i64 a0_0) := ec BK488
    have hcz207_1 : wr.cell? ⟨gb488, 1, none⟩ = some (.slice A0_1 l0_1.length c0_1) := ec BK488
    have hfz207_0 := blk_frozen BK488.out 0
    have hfz207_1 := blk_frozen BK488.out 1
    go_wp2
    go_loopg [447] k3 (fun kq v447 w' => ∃ (x447_4 : Int), v447 = .int .i64 x447_4 ∧ Aside0 (laws_FnRowsGuessedOfAll.l3 kq a1 t497 t513 t521 t529 t533 (l0_1.length : Int) x447_4 a0_0 l0_1 = some r) ∧ Aside0 (kq ≤ k3) ∧ Aside0 (Kd.R (Kd.int .i64) 3 w' w.heap.size (fun k_ => some k_ ≠ (v522 : Value).ownBlock) v514 t513) ∧ Aside0 (Kd.R (Kd.int .i64) 3 w' w.heap.size (fun k_ => some k_ ≠ (v514 : Value).ownBlock) v522 t521) ∧ Aside0 (w'.heap[gb488]? = some (.cells #[.int .i64 a0_0, (.slice A0_1 l0_1.length c0_1)] 24 (0, 0))) ∧ Aside0 (Below w.heap.size w w'))
    case atStart => exact ⟨(0), (rs), H', ⟨Nat.le_refl _⟩, ⟨pr HO_25⟩, ⟨pr HO_29⟩, ⟨pk BK488⟩, ⟨bw⟩⟩
    case round =>
     clear H'
     repeat (first|clear p1|clear q1|clear hx1|clear q2|clear hx2|clear c17|clear c18|clear c19|clear p19|clear q19|clear hx19|clear c20|clear p20|clear q20|clear hx20|clear c26|clear c27|clear p55|clear q55|clear hx55|clear c165|clear c165b0|clear c166|clear c166b0|clear c167|clear c167b0|clear c171|clear c171b0|clear c171b1|clear c172|clear c172b0|clear c174|clear c174b0|clear c175|clear c175b0|clear c182|clear c182b0|clear c183|clear c183b0|clear c184|clear c184b0|clear c189|clear c193|clear c193b0|clear c194|clear c194b0|clear c194b1|clear c195|clear c195b0|clear c195b1|clear c196|clear c196b0|clear p197|clear q197|clear hx197|clear c198|clear c198b0|clear c198b1|clear p201|clear q201|clear hx201|clear c202|clear c202b0|clear p203|clear q203|clear hx203|clear c204|clear c204b0|clear c204b1|clear hcz177_0|clear hcz177_1|clear hcz179_0|clear hcz179_1|clear hcz181_0|clear hcz181_1|clear hcz190_0|clear hcz190_1|clear hcz190_2|clear hcz190_3|clear hcz207_0|clear hcz207_1|clear hfz177_0|clear hfz177_1|clear hfz179_0|clear hfz179_1|clear hfz181_0|clear hfz181_1|clear hfz190_0|clear hfz190_1|clear hfz190_2|clear hfz190_3|clear hfz207_0|clear hfz207_1|clear hx548_0|clear hx550_0|clear hx551_0|clear hx551_1|clear hx551_2|clear hx551_3|clear p548|clear p550|clear p551|clear q548|clear q550|clear q551)
     obtain ⟨x447_4, rfl, HA, HK4, HO_25, HO_29, BK488, HB⟩ := hrel
     cases gk with
     | zero => exact absurd HA.out (by simp [laws_FnRowsGuessedOfAll.l3])
     | succ k4 =>
      have H := HA.out
      clear HA
      simp only [laws_FnRowsGuessedOfAll.l3] at H
      by_cases c208 : x447_4 < (l0_1.length : Int)
      ·rw [if_pos c208] at H
       have c208b0 := decide_eq_true c208
       clear c208
       replace H := ob H
       obtain ⟨⟨t556, t557, t560⟩, A209, H⟩ := H
       (try dsimp only at H)
       replace H := ob H
       obtain ⟨⟨t562, t563⟩, A210, H⟩ := H
       (try dsimp only at H)
       replace H := ofr HRT H
       obtain ⟨c211, H⟩ := H
       subst c211
       replace H := ofr HRT H
       obtain ⟨c212, H⟩ := H
       subst c212
       replace H := ob H
       obtain ⟨t564, A213, H⟩ := H
       (try dsimp only at H)
       by_cases c214 : (t564 != (t562 == t497)) = true
       ·rw [if_pos c214] at H
        have c214b0 : (t564 != (t562 == t497)) = true := c214
        (try (have c214b1 : decide (t564 = (t562 == t497)) = false := by simpa using c214))
        (try (have c214b2 : (t564 == (t562 == t497)) = false := by simpa using c214))
        (try (have c214b3 : ¬ (t564 = (t562 == t497)) := by simpa using c214))
        clear c214
        exact absurd (Option.some.inj H) (by rw [HRT.out]; decide)
       rw [if_neg c214] at H
       have c214b0 : (t564 != (t562 == t497)) = false := by simpa using c214
       (try (have c214b1 : decide (t564 = (t562 == t497)) = true := by simpa using c214))
       (try (have c214b2 : (t564 == (t562 == t497)) = true := by simpa using c214))
       clear c214
       obtain ⟨ji215, hji215⟩ : ∃ j_ : Int, (wrap64 (x447_4 + 1)) = j_ := ⟨_, rfl⟩
       replace H : (if 0 ≤ (ji215) then (if (ji215) < (t521.length : Int) then (if 0 ≤ x447_4 then (if x447_4 < (t521.length : Int) then (if (rd t521 (ji215)) > (rd t521 x447_4) then (some false) else (if t529 < 0 then (some false) else (if t529 ≥ (l0_1.length : Int) then (some false) else (laws_FnRowsGuessedOfAll.l3 k4 a1 t497 t513 t521 t529 t533 (l0_1.length : Int) ji215 a0_0 l0_1)))) else (none)) else (none)) else (none)) else (none)) = some r := by first | (rw [hji215] at H; exact H) | (simp only [hji215] at H ⊢; exact H)
       (try rw [hji215] at A209)
       (try rw [hji215] at A210)
       (try rw [hji215] at A213)
       have hji215w : (IntKind.i64.wrap (x447_4 + 1)) = ji215 := (i64_w _).trans hji215
       replace H := oi H
       obtain ⟨c216, H⟩ := H
       have c216b0 := decide_eq_true c216
       clear c216
       replace H := oi H
       obtain ⟨c217, H⟩ := H
       have c217b0 := decide_eq_true c217
       clear c217
       replace H := oi H
       obtain ⟨c218, H⟩ := H
       have c218b0 := decide_eq_true c218
       clear c218
       replace H := oi H
       obtain ⟨c219, H⟩ := H
       have c219b0 := decide_eq_true c219
       clear c219
       by_cases c220 : (rd t521 (ji215)) > (rd t521 x447_4)
       ·rw [if_pos c220] at H
        have c220b0 := decide_eq_true c220
        clear c220
        exact absurd (Option.some.inj H) (by rw [HRT.out]; decide)
       rw [if_neg c220] at H
       have c220b0 := decide_eq_false c220
       clear c220
       by_cases c221 : t529 < 0
       ·rw [if_pos c221] at H
        have c221b0 := decide_eq_true c221
        clear c221
        exact absurd (Option.some.inj H) (by rw [HRT.out]; decide)
       rw [if_neg c221] at H
       have c221b0 := decide_eq_false c221
       clear c221
       replace H := ofl HRT H
       obtain ⟨c222, H⟩ := H
       have c222b0 := decide_eq_false c222
       clear c222
       have H' := Aside0.mk H
       clear H
       have hcz223_0 : wr.cell? ⟨gb488, 0, none⟩ = some (.int .i64 a0_0) := ec BK488
       have hcz223_1 : wr.cell? ⟨gb488, 1, none⟩ = some (.slice A0_1 l0_1.length c0_1) := ec BK488
       have hfz223_0 := blk_frozen BK488.out 0
       have hfz223_1 := blk_frozen BK488.out 1
       try go_wp2_with (first | ((with_reducible refine gc 28 ?_); refine gl (some 453) Tryz.func28 #[.agg #[.int .i64 a0_0, .slice A0_1 l0_1.length c0_1], .int .i64 x447_4] ?_; (with_reducible refine (impl_DropClue.calls k4 a0_0 _ _ l0_1 x447_4 t556 t557 true _ ?_ ?_ A209.out).mono ?_); exact cb HR0_1; exact HC0_1.out; rintro e w224 ⟨v558, rfl, ho0, hb⟩; refine ⟨_, rfl, ?_⟩; replace HO_25 := rl HO_25 hb; replace HO_29 := rl HO_29 hb; have HO559 := Aside0.mk (Kd.R_lower ho0 (below_size bw)); replace BK488 := nk BK488 hb; replace HB := bs hb; (try clear hb); (try clear ho0)) | ((with_reducible refine gd 49 ?_); (try (refine gate_guard (by rfl) ?_; dsimp only)); refine bx 49 24 #[.int .i64 0, .slice none 0 0] ?_; intro gb561 hg w225 hbox hb; replace HO_25 := rl HO_25 hb; replace HO_29 := rl HO_29 hb; replace HO559 := rl HO559 hb; have BK561 := hbox; have GW561 := gs hg; have GE561 := gs hg; replace HB := bs hb; have ⟨NB488_561, NB561_488⟩ := nn BK488 hg; replace BK488 := nk BK488 hb; clear hb hbox hg; have hnb226 := nb NB561_488; obtain ⟨hcz227_0, hcz227_1, hfz227_0, hfz227_1⟩ := z2 BK561; obtain ⟨Ao228, co228, eo228⟩ := Kd.R_slice HO559.out; subst eo228) | ((with_reducible refine gc 6 ?_); refine gl (some 458) Tryz.func6 #[.agg #[.int .i64 t556, .slice Ao228 t557.length co228]] ?_; (with_reducible refine (impl_CountSolutions.calls k4 t556 _ _ t557 t562 true _ ?side1 ?side2 ?side3 A210.out).mono ?_); (case side1 => exact Dr.mm HMM); (case side2 => refine (Kd.R_reads' (e := 42) (base := w.heap.size) (ok := fun k_ => True) (n := t557.length) (c := co228) ?_).2.2; exact (qf HO559)); (case side3 => exact rn HO559); rintro e w229 ⟨rfl, hb⟩; refine ⟨_, rfl, ?_⟩; replace HO_25 := Aside0.mk (Kd.R_below (qf HO_25) hb); replace HO_29 := Aside0.mk (Kd.R_below (qf HO_29) hb); replace HO559 := Aside0.mk (Kd.R_below (qf HO559) hb); replace BK488 := nf BK488 hb; replace BK561 := Aside0.mk (blk_below (g := gb561) (o := .cells #[.int .i64 t556, .slice Ao228 t557.length co228] 24 (0, 0)) (pz BK561) hb); replace HB := bs hb; (try clear hb)))
       replace HO_25 := Aside0.mk (Kd.R_drew HO_25.out)
       replace HO_29 := Aside0.mk (Kd.R_drew HO_29.out)
       replace HO559 := Aside0.mk (Kd.R_drew HO559.out)
       replace BK488 := Aside0.mk (blk_drew BK488.out)
       replace BK561 := Aside0.mk (blk_drew BK561.out)
       replace HB := Aside0.mk (below_drew1 HB.out)
       obtain ⟨Ao231, co231, eo231⟩ := Kd.R_slice HO_25.out
       (first | subst eo231 | (injection eo231 with f1_ f2_ f3_; have f4_ := f1_.symm; have f5_ := f3_.symm; clear f1_ f2_ f3_; subst f4_; subst f5_))
       have p565 : 0 ≤ ((ji215) : Int) := of_decide_eq_true asm
       have q565 : (ji215) < (t521.length : Int) := of_decide_eq_true asm
       obtain ⟨Ao232_, co232_, eo232_⟩ := Kd.R_slice HO_29.out
       subst eo232_
       obtain ⟨ad565, e565, hx565_0⟩ := Kd.at_int (Kd.R_reads' HO_29.out).2.2 (ji215) p565 q565
       cases e565
       replace p565 := eq_true p565
       replace q565 := eq_true q565
       have p566 : 0 ≤ (x447_4 : Int) := of_decide_eq_true asm
       have q566 : x447_4 < (t521.length : Int) := of_decide_eq_true asm
       obtain ⟨ad566, e566, hx566_0⟩ := Kd.at_int (Kd.R_reads' HO_29.out).2.2 x447_4 p566 q566
       obtain rfl : ad565 = ad566 := (by injection e566)
       replace p566 := eq_true p566
       replace q566 := eq_true q566
       refine start_ (n := 38) (S := fun w' => w'.cell? ⟨gb488, 0, none⟩ = some (.int .i64 a0_0) ∧ w'.cell? ⟨gb488, 1, none⟩ = some (.slice A0_1 l0_1.length c0_1) ∧ w'.cell? (ad565.add ((ji215)).toNat) = some (.int .i64 (rd t521 (ji215))) ∧ w'.cell? (ad565.add (x447_4).toNat) = some (.int .i64 (rd t521 x447_4))) (ds := []) (tb 38 0) (by kernel_rfl) rfl rfl ⟨ec BK488, ec BK488, hx565_0, hx566_0⟩ (fun hHeld => ?_); refine with_tabW laws_FnRowsGuessedOfAll.tab49 laws_FnRowsGuessedOfAll.bits49 (fun HT_ HW_ => ?_)
       generalize w229.drew = w230 at HO_25 HO_29 HO559 BK488 BK561 HB hx565_0 hx566_0 hHeld ⊢
       refine pu 0 (some 461) (tb 38 1) ?_
       refine pu 1 (some 462) (tb 38 3) ?_
       refine pu 2 (some 463) (tb 38 7) ?_
       refine pu 3 (some 464) (tb 38 15) ?_
       refine pu 4 (some 465) (tb 38 31) ?_
       refine pu 5 (some 466) (tb 38 63) ?_
       refine pu 6 (some 467) (tb 38 127) ?_
       refine pu 7 (some 468) (tb 38 255) ?_
       refine pu 8 (some 469) (tb 38 511) ?_
       refine pu 10 (some 471) (tb 38 1535) ?_
       refine pu 11 (some 472) (tb 38 3583) ?_
       refine pu 12 (some 473) (tb 38 7679) ?_
       refine one_ (i := 9) (N := some 470) (tb 38 8191) rfl rfl (one_of HT_.out (by kernel_rfl)) (by decide) (fun K hK => ?_)
       refine go1 Tryz.func29 #[.slice Ao231 t513.length co231, .int .i64 x447_4] ?_
       with_reducible refine (laws_vHas.calls k4 _ _ t513 x447_4 t564 _ ?side1 ?side2 A213.out).mono ?_
       (case side1 => exact rr HO_25)
       (case side2 => exact rn HO_25)
       rintro e w' ⟨rfl, ⟨nd, rfl⟩⟩
       refine ⟨_, rfl, ?_⟩
       obtain ⟨Ao232, co232, eo232⟩ := Kd.R_slice HO_29.out
       (first | subst eo232 | (injection eo232 with f1_ f2_ f3_; have f4_ := f1_.symm; have f5_ := f3_.symm; clear f1_ f2_ f3_; subst f4_; subst f5_))
       refine hK.out _ _ ⟨ec BK488, ec BK488, hHeld.2.2.1, hHeld.2.2.2⟩ (fun hHeld => ?_)
       clear hK K
       refine nm (some 470) ?_
       refine pu 13 (some 474) (tb 38 16383) ?_
       refine pu 14 (some 475) (tb 38 32767) ?_
       refine pu 15 (some 476) (tb 38 65535) ?_
       refine pu 16 (some 477) (tb 38 131071) ?_
       refine pu 17 (some 478) (tb 38 262143) ?_
       refine pu 18 (some 479) (tb 38 524287) ?_
       refine pu 19 (some 480) (tb 38 1048575) ?_
       refine pu 21 (some 482) (tb 38 3145727) ?_
       refine pu 22 (some 483) (tb 38 7340031) ?_
       refine pu 23 (some 484) (tb 38 15728639) ?_
       refine tk 20 (some 481) (tb 38 16777215) (hT := HT_) (hB := HW_) hHeld ?_
       refine tk 24 (some 485) (tb 38 33554431) (hT := HT_) (hB := HW_) hHeld ?_
       refine pu 25 (some 486) (tb 38 67108863) ?_
       refine pu 26 (some 487) (tb 38 134217727) ?_
       refine pu 27 (some 488) (tb 38 268435455) ?_
       refine pu 28 (some 489) (tb 38 536870911) ?_
       refine pu 29 (some 490) (tb 38 1073741823) ?_
       refine pu 30 (some 491) (tb 38 2147483647) ?_
       refine pu 31 (some 492) (tb 38 4294967295) ?_
       refine pu 32 (some 493) (tb 38 8589934591) ?_
       refine pu 33 (some 494) (tb 38 17179869183) ?_
       refine tk 34 (some 495) (tb 38 34359738367) (hT := HT_) (hB := HW_) hHeld ?_
       refine pu 35 (some 496) (tb 38 68719476735) ?_
       refine pu 36 (some 497) (tb 38 137438953471) ?_
       refine pu 37 (some 498) (tb 38 274877906943) ?_
       refine done_ (done_of HT_.out (by kernel_rfl)) ?_
       try go_wp2
       go_roundg k4
       case measure => have := HJ22.out; have := HJ123.out; have := HK3.out; have := HK4.out; omega
       case rel => exact ⟨(ji215), (by first | rfl | (simp; done) | (simp only [← hji215] <;> (first | rfl | simp)) | (simp [*]; done)), H', ⟨by have := HJ22.out; have := HJ123.out; have := HK3.out; have := HK4.out; omega⟩, ⟨pr HO_25⟩, ⟨pr HO_29⟩, ⟨pk BK488⟩, ⟨bw⟩⟩
      rw [if_neg c208] at H
      have c208b0 := decide_eq_false c208
      clear c208
      replace H := ob H
      obtain ⟨⟨t567, t568, t571⟩, A233, H⟩ := H
      (try dsimp only at H)
      replace H := ofr HRT H
      obtain ⟨c234, H⟩ := H
      subst c234
      replace H := ob H
      obtain ⟨t573, A235, H⟩ := H
      (try dsimp only at H)
      replace H := ofr HRT H
      obtain ⟨c236, H⟩ := H
      subst c236
      have H' := Aside0.mk H
      clear H
      go_wp2_with (first | ((with_reducible refine gc 30 ?_); refine gl (some 502) Tryz.func30 #[.string t533] ?_; (with_reducible refine (impl_ParsePuzzle.calls k4 t533 t567 t568 true _ ?_ A233.out).mono ?_); exact Dr.mm HMM; rintro e w237 ⟨v569, rfl, ho0, hb⟩; refine ⟨_, rfl, ?_⟩; replace HO_25 := rl HO_25 hb; replace HO_29 := rl HO_29 hb; have HO570 := Aside0.mk (Kd.R_lower ho0 (below_size bw)); replace BK488 := nk BK488 hb; replace HB := bs hb; (try clear hb); (try clear ho0)) | ((with_reducible refine gd 53 ?_); (try (refine gate_guard (by rfl) ?_; dsimp only)); refine bx 53 24 #[.int .i64 0, .slice none 0 0] ?_; intro gb572 hg w238 hbox hb; replace HO_25 := rl HO_25 hb; replace HO_29 := rl HO_29 hb; replace HO570 := rl HO570 hb; have BK572 := hbox; have GW572 := gs hg; have GE572 := gs hg; replace HB := bs hb; have ⟨NB488_572, NB572_488⟩ := nn BK488 hg; replace BK488 := nk BK488 hb; clear hb hbox hg; have hnb239 := nb NB572_488; obtain ⟨hcz240_0, hcz240_1, hfz240_0, hfz240_1⟩ := z2 BK572; obtain ⟨Ao241, co241, eo241⟩ := Kd.R_slice HO570.out; subst eo241; obtain ⟨hcz242_0, hcz242_1, hfz242_0, hfz242_1⟩ := z2 BK488) | (go_at_call 31; (with_reducible refine (laws_vPuzzle.calls k4 t567 _ _ t568 a0_0 _ _ l0_1 true _ ?side1 ?side2 ?side3 ?side4 A235.out).mono ?_); (case side1 => refine (Kd.R_reads' (e := 42) (base := w.heap.size) (ok := fun k_ => True) (n := t568.length) (c := co241) ?_).2.2; exact (qf HO570)); (case side2 => exact rn HO570); (case side3 => exact Kd.C_below HR0_1.out bw); (case side4 => exact HC0_1.out); rintro e w243 ⟨rfl, hb⟩; replace HO_25 := Aside0.mk (Kd.R_below (qf HO_25) hb); replace HO_29 := Aside0.mk (Kd.R_below (qf HO_29) hb); replace HO570 := Aside0.mk (Kd.R_below (qf HO570) hb); replace BK488 := nf BK488 hb; replace BK572 := Aside0.mk (blk_below (g := gb572) (o := .cells #[.int .i64 t567, .slice Ao241 t568.length co241] 24 (0, 0)) (pz BK572) hb); replace HB := bs hb; (try clear hb)))
      go_meet
      case rel => exact ⟨_, H', ⟨by have := HJ22.out; have := HJ123.out; have := HK3.out; have := HK4.out; first | omega | exact Nat.le_refl _⟩, ⟨bw⟩⟩

end Go.Proofs.YtfaakdokcldnkaaGreatDoor.PFnRowsGuessedOfAll
