-- Laid by xprint, a program of this session that runs over the kit's print.
import Derived.Test.YtfaakdokcldnkaaGreatDoorPFnRowsGuessedOfAllx23
namespace Go.Proofs.YtfaakdokcldnkaaGreatDoor.PFnRowsGuessedOfAll
open Go.RowKit Go.Proofs.YtfaakdokcldnkaaGreatDoorW.PrintWords Go.Proofs.YtfaakdokcldnkaaGreatDoorW.PrintLast Go.Proofs.YtfaakdokcldnkaaGreatDoorW.PrintMore Go.Proofs.YtfaakdokcldnkaaGreatDoor.Sq
attribute [local go_sem] max2_int min2_int max_two min_two max_three min_three max_four min_four   -- for this text's walks alone
set_option linter.unusedVariables false
set_option linter.unusedSimpArgs false

/-! ### laws_FnRowsGuessedOfAll: its contract -/
set_option maxHeartbeats 80000000 in
set_option maxRecDepth 100000 in
theorem laws_FnRowsGuessedOfAll.r2
 {a0_0 : Int}
 {A0_1 : Option Addr}
 {c0_1 : Nat}
 {l0_1 : List S42}
 {a1 : ByteArray}
 {r : Bool}
 {w : World}
 (HRT : Aside0 (r = true))
 (HMM : Aside0 (Dr.Tab w))
 {t492 t496 : Bool}
 {t497 : Int}
 {t498 : Bool}
 {t499 : Int}
 {t500 : Bool}
 {t501 : ByteArray}
 {t502 : Bool}
 {t503 : ByteArray}
 {t504 : Bool}
 {t505 : ByteArray}
 {t506 : Bool}
 {t507 : ByteArray}
 {t508 t509 t510 t511 t512 t516 t520 t524 t528 : Bool}
 {t529 : Int}
 {t530 : Bool}
 {t531 : Int}
 {t532 : Bool}
 {t533 : ByteArray}
 {t534 : Bool}
 {t535 : ByteArray}
 {t536 : Bool}
 {gb488 : Nat}
 {v490 v494 v514 v518 v522 v526 u98 u103 u107 u108 u112 u113 u118 u123 u128 u133 u138 u140 u141 u142 u143 u144 u145 u146 u147 u148 u149 u150 u151 u152 u153 u154 u155 u156 u157 u158 u159 u160 u161 u162 u163 u164 u165 u166 u167 u168 u169 u170 u171 u172 u173 u174 u175 u176 u177 u178 u179 u180 u181 u182 u183 u184 u185 u186 u187 u188 u189 u190 u191 u192 u193 u194 u195 u196 u197 u198 u199 u200 u201 u202 u203 u204 u205 u206 u207 u208 u209 u210 u211 u212 u213 u214 u215 u216 u217 u218 u219 u220 u221 u222 u223 u224 u225 u226 u227 u228 u229 u230 u231 u232 u233 u234 u235 u236 u237 u238 u239 u240 u241 u242 u243 u244 u245 u246 u247 u248 u252 u254 u267 : Value}
 {kj22 : Nat}
 {wc : World}
 {u4 u41 u42 u44 u45 u46 u47 u48 u49 u50 u51 u52 u53 u54 u249 u250 u251 u253 u255 u256 u257 u258 u259 u260 u261 u262 u263 u264 u265 u266 u268 u269 u270 u271 u272 u273 u274 u275 u276 u277 u278 u279 u280 u281 u282 u283 u284 u285 u286 u287 u288 u289 u290 u291 u292 u293 u294 u295 u296 u297 u298 u299 u300 u301 u302 u303 u304 u305 u306 u307 u308 u309 u310 u311 u312 u313 u314 u315 u316 u317 u318 u319 u320 u321 u322 u323 u324 u325 u326 u327 u328 u329 u330 u331 u332 u333 u334 u335 u336 u337 u338 u339 u340 u341 u342 u343 u344 u345 u346 u347 u348 u349 u350 u351 u352 u353 u354 u355 u356 u357 u358 u359 u360 u361 u362 u363 u364 u365 u366 u367 u368 u369 u370 u371 u372 u373 u374 u375 u376 u377 u378 u379 u380 u381 u382 u383 u384 u385 u386 u387 u388 u389 u390 u391 u392 u393 u394 u395 u396 u397 u398 u399 u400 u401 u402 u403 u404 u405 u406 u407 u408 u409 u410 u411 u412 u413 u414 u415 u416 u417 u418 u419 u420 u421 u422 u423 u424 u425 u426 u427 u428 u429 u430 u431 u432 u433 u434 u435 u436 u437 u438 u439 u440 u441 u442 u443 u444 u445 u446 u447 u448 u449 u450 u451 u452 u453 u454 u455 u456 u457 u458 u459 u460 u461 u462 u463 u464 u465 u466 u467 u468 u469 u470 u471 u472 u473 u474 u475 u476 u477 u478 u479 u480 u481 u482 u483 u484 u485 u486 u487 u488 u489 u490 u491 u492 u493 u494 u495 u496 u497 u498 u499 u500 u501 u502 u503 u504 u505 u506 u507 u508 u509 u510 u511 u512 : Value}
 {kq : Nat}
 (HA : Aside0 (j7 kq a1 = some r))
 (HJ121 : Aside0 (kq ≤ kj22))
 (HB : Aside0 (Below (Array.size w.heap) w wc)) :
 Code.wp Tryz.prog (cdd Tryz.f3 [1, 1, 1, 1, 1, 1, 1, 1, 1, 1, 1, 1, 1, 1, 1, 1, 1, 1, 1, 1, 1, 1]) (bodyPost Tryz.prog Tryz.f3 fun e w' => e = Ending.returned (.bool r) ∧ Below (Array.size w.heap) w w') { tmps := #[.agg #[.int .i64 a0_0, .slice A0_1 (List.length l0_1) c0_1], .string a1, .pointer (some { block := gb488, off := 0 }), undef, u4, v490, .bool t492, v494, .bool t496, .int .i64 t497, .bool t498, .int .i64 t499, .bool t500, .string t501, .bool t502, .string t503, .bool t504, .string t505, .bool t506, .string t507, .bool t508, .bool t509, .bool t510, .bool t511, .bool t512, v514, .bool t516, v518, .bool t520, v522, .bool t524, v526, .bool t528, .int .i64 t529, .bool t530, .int .i64 t531, .bool t532, .string t533, .bool t534, .string t535, .bool t536, u41, u42, undef, u44, u45, u46, u47, u48, u49, u50, u51, u52, u53, u54, undef, undef, undef, undef, undef, undef, .string a1, .int .i64 ↑(ByteArray.size a1), .bool false, Value.tuple #[v490, .bool t492], .agg #[.int .i64 a0_0, .slice A0_1 (List.length l0_1) c0_1], Value.tuple #[v490, .bool t492], v490, .bool t492, Value.tuple #[v494, .bool t496], .agg #[.int .i64 a0_0, .slice A0_1 (List.length l0_1) c0_1], Value.tuple #[v494, .bool t496], v494, .bool t496, Value.tuple #[.int .i64 t497, .bool t498], .agg #[.int .i64 a0_0, .slice A0_1 (List.length l0_1) c0_1], Value.tuple #[.int .i64 t497, .bool t498], .int .i64 t497, .bool t498, Value.tuple #[.int .i64 t499, .bool t500], .agg #[.int .i64 a0_0, .slice A0_1 (List.length l0_1) c0_1], Value.tuple #[.int .i64 t499, .bool t500], .int .i64 t499, .bool t500, Value.tuple #[.string t501, .bool t502], .agg #[.int .i64 a0_0, .slice A0_1 (List.length l0_1) c0_1], Value.tuple #[.string t501, .bool t502], .string t501, .bool t502, Value.tuple #[.string t503, .bool t504], .agg #[.int .i64 a0_0, .slice A0_1 (List.length l0_1) c0_1], Value.tuple #[.string t503, .bool t504], .string t503, .bool t504, Value.tuple #[.string t505, .bool t506], .agg #[.int .i64 a0_0, .slice A0_1 (List.length l0_1) c0_1], Value.tuple #[.string t505, .bool t506], .string t505, u98, Value.tuple #[.string t507, .bool t508], .agg #[.int .i64 a0_0, .slice A0_1 (List.length l0_1) c0_1], Value.tuple #[.string t507, .bool t508], .string t507, u103, Value.tuple #[.bool t509, .bool t510], .agg #[.int .i64 a0_0, .slice A0_1 (List.length l0_1) c0_1], Value.tuple #[.bool t509, .bool t510], u107, u108, Value.tuple #[.bool t511, .bool t512], .agg #[.int .i64 a0_0, .slice A0_1 (List.length l0_1) c0_1], Value.tuple #[.bool t511, .bool t512], u112, u113, Value.tuple #[v514, .bool t516], .agg #[.int .i64 a0_0, .slice A0_1 (List.length l0_1) c0_1], Value.tuple #[v514, .bool t516], v514, u118, Value.tuple #[v518, .bool t520], .agg #[.int .i64 a0_0, .slice A0_1 (List.length l0_1) c0_1], Value.tuple #[v518, .bool t520], v518, u123, Value.tuple #[v522, .bool t524], .agg #[.int .i64 a0_0, .slice A0_1 (List.length l0_1) c0_1], Value.tuple #[v522, .bool t524], v522, u128, Value.tuple #[v526, .bool t528], .agg #[.int .i64 a0_0, .slice A0_1 (List.length l0_1) c0_1], Value.tuple #[v526, .bool t528], v526, u133, Value.tuple #[.int .i64 t529, .bool t530], .agg #[.int .i64 a0_0, .slice A0_1 (List.length l0_1) c0_1], Value.tuple #[.int .i64 t529, .bool t530], .int .i64 t529, u138, Value.tuple #[.int .i64 t531, .bool t532], u140, u141, u142, u143, u144, u145, u146, u147, u148, u149, u150, u151, u152, u153, u154, u155, u156, u157, u158, u159, u160, u161, u162, u163, u164, u165, u166, u167, u168, u169, u170, u171, u172, u173, u174, u175, u176, u177, u178, u179, u180, u181, u182, u183, u184, u185, u186, u187, u188, u189, u190, u191, u192, u193, u194, u195, u196, u197, u198, u199, u200, u201, u202, u203, u204, u205, u206, u207, u208, u209, u210, u211, u212, u213, u214, u215, u216, u217, u218, u219, u220, u221, u222, u223, u224, u225, u226, u227, u228, u229, u230, u231, u232, u233, u234, u235, u236, u237, u238, u239, u240, u241, u242, u243, u244, u245, u246, u247, u248, u249, u250, u251, u252, u253, u254, u255, u256, u257, u258, u259, u260, u261, u262, u263, u264, u265, u266, u267, u268, u269, u270, u271, u272, u273, u274, u275, u276, u277, u278, u279, u280, u281, u282, u283, u284, u285, u286, u287, u288, u289, u290, u291, u292, u293, u294, u295, u296, u297, u298, u299, u300, u301, u302, u303, u304, u305, u306, u307, u308, u309, u310, u311, u312, u313, u314, u315, u316, u317, u318, u319, u320, u321, u322, u323, u324, u325, u326, u327, u328, u329, u330, u331, u332, u333, u334, u335, u336, u337, u338, u339, u340, u341, u342, u343, u344, u345, u346, u347, u348, u349, u350, u351, u352, u353, u354, u355, u356, u357, u358, u359, u360, u361, u362, u363, u364, u365, u366, u367, u368, u369, u370, u371, u372, u373, u374, u375, u376, u377, u378, u379, u380, u381, u382, u383, u384, u385, u386, u387, u388, u389, u390, u391, u392, u393, u394, u395, u396, u397, u398, u399, u400, u401, u402, u403, u404, u405, u406, u407, u408, u409, u410, u411, u412, u413, u414, u415, u416, u417, u418, u419, u420, u421, u422, u423, u424, u425, u426, u427, u428, u429, u430, u431, u432, u433, u434, u435, u436, u437, u438, u439, u440, u441, u442, u443, u444, u445, u446, u447, u448, u449, u450, u451, u452, u453, u454, u455, u456, u457, u458, u459, u460, u461, u462, u463, u464, u465, u466, u467, u468, u469, u470, u471, u472, u473, u474, u475, u476, u477, u478, u479, u480, u481, u482, u483, u484, u485, u486, u487, u488, u489, u490, u491, u492, u493, u494, u495, u496, u497, u498, u499, u500, u501, u502, u503, u504, u505, u506, u507, u508, u509, u510, u511, u512, undef, undef, undef, undef, undef, undef, undef, undef, undef, undef, undef, undef, undef, undef, undef, undef, undef, undef, undef, undef, undef, undef, undef, undef, undef, undef, undef, undef, undef, undef, undef], defers := [] } wc := by
 conv in cdd _ _ => whnf
 try dsimp only
 cases kq with
 | zero => exact absurd HA.out (by simp [laws_FnRowsGuessedOfAll.j7])
 | succ kj121 =>
  have H := HA.out
  clear HA
  simp only [laws_FnRowsGuessedOfAll.j7] at H
  replace H := ob H
  obtain ⟨⟨t574, t575, t578⟩, A244, H⟩ := H
  (try dsimp only at H)
  replace H := ob H
  obtain ⟨⟨t580, t581, t584⟩, A245, H⟩ := H
  (try dsimp only at H)
  replace H := ofl HRT H
  obtain ⟨c246, H⟩ := H
  have c246b0 : (t578 != t584) = false := by simpa using c246
  (try (have c246b1 : decide (t578 = t584) = true := by simpa using c246))
  (try (have c246b2 : (t578 == t584) = true := by simpa using c246))
  clear c246
  replace H := ob H
  obtain ⟨t586, A247, H⟩ := H
  (try dsimp only at H)
  replace H := ofr HRT H
  obtain ⟨c248, H⟩ := H
  subst c248
  by_cases c249 : t578 = true
  ·subst c249
   rw [if_pos rfl] at H
   replace H := ob H
   obtain ⟨⟨t587, t588⟩, A250, H⟩ := H
   (try dsimp only at H)
   replace H := ofr HRT H
   obtain ⟨c251, H⟩ := H
   subst c251
   obtain rfl := Option.some.inj H
   go_wp2_with (first | ((with_reducible refine gc 30 ?_); refine gl (some 515) Tryz.func30 #[.string a1] ?_; (with_reducible refine (impl_ParsePuzzle.calls kj121 a1 t574 t575 true _ ?_ A244.out).mono ?_); exact Dr.mm HMM; rintro e w252 ⟨v576, rfl, ho0, hb⟩; refine ⟨_, rfl, ?_⟩; have HO577 := Aside0.mk (Kd.R_lower ho0 (below_size bw)); replace HB := bs hb; (try clear hb); (try clear ho0)) | ((with_reducible refine gd 55 ?_); (try (refine gate_guard (by rfl) ?_; dsimp only)); refine bx 55 24 #[.int .i64 0, .slice none 0 0] ?_; intro gb579 hg w253 hbox hb; replace HO577 := rl HO577 hb; have BK579 := hbox; have GW579 := gs hg; have GE579 := gs hg; replace HB := bs hb; clear hb hbox hg; have hz254 := z2 BK579; obtain ⟨Ao255, co255, eo255⟩ := Kd.R_slice HO577.out; subst eo255) | ((with_reducible refine gc 32 ?_); refine gl (some 520) Tryz.func32 #[.string a1] ?_; (with_reducible refine (spec_ParsePuzzle.calls kj121 a1 t580 t581 t584 _ A245.out).mono ?_); rintro e w256 ⟨v582, rfl, ho0, hb⟩; refine ⟨_, rfl, ?_⟩; have HO583 := Aside0.mk (Kd.R_lower (Kd.R_new' ho0 (Kd.R_lt (qf HO577))) (below_size bw)); replace HO577 := Aside0.mk (Kd.R_elder' (qf HO577) (Kd.R_base ho0) hb); replace BK579 := Aside0.mk (blk_below (g := gb579) (o := .cells #[.int .i64 t574, .slice Ao255 t575.length co255] 24 (0, 0)) (pz BK579) hb); replace HB := bs hb; (try clear hb); (try clear ho0)) | ((with_reducible refine gd 57 ?_); (try (refine gate_guard (by rfl) ?_; dsimp only)); refine bx 57 24 #[.int .i64 0, .slice none 0 0] ?_; intro gb585 hg w257 hbox hb; replace HO577 := rl HO577 hb; replace HO583 := rl HO583 hb; have BK585 := hbox; have GW585 := gs hg; have GE585 := gs hg; replace HB := bs hb; have ⟨NB579_585, NB585_579⟩ := nn BK579 hg; replace BK579 := nk BK579 hb; clear hb hbox hg; have hnb258 := nb NB585_579; have hz259 := z2 BK585; obtain ⟨Ao260, co260, eo260⟩ := Kd.R_slice HO583.out; subst eo260; have hz261 := z2 BK579) | (go_at_call 31; (with_reducible refine (laws_vPuzzle.calls kj121 t574 _ _ t575 t580 _ _ t581 true _ ?side1 ?side2 ?side3 ?side4 A247.out).mono ?_); (case side1 => refine (Kd.R_reads' (e := 42) (base := w.heap.size) (ok := fun k_ => (True ∧ some k_ ≠ (.slice Ao260 t581.length co260 : Value).ownBlock)) (n := t575.length) (c := co255) ?_).2.2; exact (qf HO577)); (case side2 => exact rn HO577); (case side3 => refine (Kd.R_reads' (e := 42) (base := w.heap.size) (ok := fun k_ => (True ∧ some k_ ≠ (.slice Ao255 t575.length co255 : Value).ownBlock)) (n := t581.length) (c := co260) ?_).2.2; exact (qf HO583)); (case side4 => exact rn HO583); rintro e w262 ⟨rfl, hb⟩; replace HO577 := Aside0.mk (Kd.R_below (qf HO577) hb); replace HO583 := Aside0.mk (Kd.R_below (qf HO583) hb); replace BK579 := nf BK579 hb; replace BK585 := Aside0.mk (blk_below (g := gb585) (o := .cells #[.int .i64 t580, .slice Ao260 t581.length co260] 24 (0, 0)) (pz BK585) hb); replace HB := bs hb; (try clear hb); have hz263 := z2 BK579) | ((with_reducible refine gc 20 ?_); refine gl (some 535) Tryz.func20 #[.agg #[.int .i64 t574, .slice Ao255 t575.length co255]] ?_; (with_reducible refine (impl_PuzzleText.calls kj121 t574 _ _ t575 t587 true _ ?_ ?_ A250.out).mono ?_); exact rr HO577; exact rn HO577; rintro e w264 ⟨rfl, hb⟩; refine ⟨_, rfl, ?_⟩; replace HO577 := rl HO577 hb; replace HO583 := rl HO583 hb; replace HB := bs hb; (try clear hb)))
   go_ret
   exact ⟨rs, bw⟩
  replace c249 := Bool.eq_false_iff.mpr c249
  subst c249
  rw [if_neg (show ¬ (false = true) by decide)] at H
  obtain rfl := Option.some.inj H
  go_wp2_with (first | ((with_reducible refine gc 30 ?_); refine gl (some 515) Tryz.func30 #[.string a1] ?_; (with_reducible refine (impl_ParsePuzzle.calls kj121 a1 t574 t575 false _ ?_ A244.out).mono ?_); exact Dr.mm HMM; rintro e w265 ⟨v576, rfl, ho0, hb⟩; refine ⟨_, rfl, ?_⟩; have HO577 := Aside0.mk (Kd.R_lower ho0 (below_size bw)); replace HB := bs hb; (try clear hb); (try clear ho0)) | ((with_reducible refine gd 55 ?_); (try (refine gate_guard (by rfl) ?_; dsimp only)); refine bx 55 24 #[.int .i64 0, .slice none 0 0] ?_; intro gb579 hg w266 hbox hb; replace HO577 := rl HO577 hb; have BK579 := hbox; have GW579 := gs hg; have GE579 := gs hg; replace HB := bs hb; clear hb hbox hg; have hz267 := z2 BK579; obtain ⟨Ao268, co268, eo268⟩ := Kd.R_slice HO577.out; subst eo268) | ((with_reducible refine gc 32 ?_); refine gl (some 520) Tryz.func32 #[.string a1] ?_; (with_reducible refine (spec_ParsePuzzle.calls kj121 a1 t580 t581 t584 _ A245.out).mono ?_); rintro e w269 ⟨v582, rfl, ho0, hb⟩; refine ⟨_, rfl, ?_⟩; have HO583 := Aside0.mk (Kd.R_lower (Kd.R_new' ho0 (Kd.R_lt (qf HO577))) (below_size bw)); replace HO577 := Aside0.mk (Kd.R_elder' (qf HO577) (Kd.R_base ho0) hb); replace BK579 := Aside0.mk (blk_below (g := gb579) (o := .cells #[.int .i64 t574, .slice Ao268 t575.length co268] 24 (0, 0)) (pz BK579) hb); replace HB := bs hb; (try clear hb); (try clear ho0)) | ((with_reducible refine gd 57 ?_); (try (refine gate_guard (by rfl) ?_; dsimp only)); refine bx 57 24 #[.int .i64 0, .slice none 0 0] ?_; intro gb585 hg w270 hbox hb; replace HO577 := rl HO577 hb; replace HO583 := rl HO583 hb; have BK585 := hbox; have GW585 := gs hg; have GE585 := gs hg; replace HB := bs hb; have ⟨NB579_585, NB585_579⟩ := nn BK579 hg; replace BK579 := nk BK579 hb; clear hb hbox hg; have hnb271 := nb NB585_579; have hz272 := z2 BK585; obtain ⟨Ao273, co273, eo273⟩ := Kd.R_slice HO583.out; subst eo273; have hz274 := z2 BK579) | (go_at_call 31; (with_reducible refine (laws_vPuzzle.calls kj121 t574 _ _ t575 t580 _ _ t581 true _ ?side1 ?side2 ?side3 ?side4 A247.out).mono ?_); (case side1 => refine (Kd.R_reads' (e := 42) (base := w.heap.size) (ok := fun k_ => (True ∧ some k_ ≠ (.slice Ao273 t581.length co273 : Value).ownBlock)) (n := t575.length) (c := co268) ?_).2.2; exact (qf HO577)); (case side2 => exact rn HO577); (case side3 => refine (Kd.R_reads' (e := 42) (base := w.heap.size) (ok := fun k_ => (True ∧ some k_ ≠ (.slice Ao268 t575.length co268 : Value).ownBlock)) (n := t581.length) (c := co273) ?_).2.2; exact (qf HO583)); (case side4 => exact rn HO583); rintro e w275 ⟨rfl, hb⟩; replace HO577 := Aside0.mk (Kd.R_below (qf HO577) hb); replace HO583 := Aside0.mk (Kd.R_below (qf HO583) hb); replace BK579 := nf BK579 hb; replace BK585 := Aside0.mk (blk_below (g := gb585) (o := .cells #[.int .i64 t580, .slice Ao273 t581.length co273] 24 (0, 0)) (pz BK585) hb); replace HB := bs hb; (try clear hb)))
  go_ret
  exact ⟨rs, bw⟩

end Go.Proofs.YtfaakdokcldnkaaGreatDoor.PFnRowsGuessedOfAll
