-- Laid by xprint, a program of this session that runs over the kit's print.
import Derived.Test.YtolalphffodkdaaGreatDoorPFnRowsRestx10
namespace Go.Proofs.YtolalphffodkdaaGreatDoor.PFnRowsRest
open Go.RowKit Go.Proofs.YtolalphffodkdaaGreatDoorW.PrintWords Go.Proofs.YtolalphffodkdaaGreatDoorW.PrintLast Go.Proofs.YtolalphffodkdaaGreatDoorW.PrintMore Go.Proofs.YtolalphffodkdaaGreatDoor.Sq
attribute [local go_sem] max2_int min2_int max_two min_two max_three min_three max_four min_four   -- for this text's walks alone
set_option linter.unusedVariables false
set_option linter.unusedSimpArgs false

/-! ### laws_FnRowsRest: its contract -/
set_option maxHeartbeats 80000000 in
set_option maxRecDepth 100000 in
theorem laws_FnRowsRest.r4
 {k : Nat}
 {A0 : Option Addr}
 {c0 : Nat}
 {l0 : List Int}
 {A1 : Option Addr}
 {c1 : Nat}
 {l1 : List Int}
 {r : Bool}
 {w : World}
 (HRT : Aside0 (r = true))
 (HMM : Aside0 (Dr.Tab w))
 {t294 : ByteArray}
 {t295 : Int}
 {t296 : Bool}
 {t297 : Int}
 {t298 : Bool}
 {t299 : ByteArray}
 {t300 : Bool}
 {t301 : ByteArray}
 {t302 : Bool}
 {t303 : Int}
 {t304 : Bool}
 {t305 : Int}
 {t306 : Bool}
 {t307 : List Int}
 {t308 : Bool}
 {t311 : List Int}
 {t312 : Bool}
 {t315 : List Int}
 {t316 : Bool}
 {t319 : List Int}
 {t320 : Bool}
 {t323 : ByteArray}
 {t324 : Bool}
 {t325 : ByteArray}
 {t326 t327 t328 t329 t330 : Bool}
 {t331 : ByteArray}
 {t332 : Bool}
 {t333 : ByteArray}
 {t334 : Bool}
 {t335 : ByteArray}
 {t336 : Bool}
 {t337 : ByteArray}
 {t338 : Bool}
 {Ao75 : Option Addr}
 {co75 : Nat}
 {Ao76 : Option Addr}
 {co76 : Nat}
 {Ao77 : Option Addr}
 {co77 : Nat}
 {Ao78 : Option Addr}
 {co78 : Nat}
 {u4 u42 u43 u44 u45 u46 u48 u49 u50 u51 u52 u53 u54 u55 u56 u57 u58 u59 u262 u263 u266 u267 u268 u269 u271 u272 u273 u274 u276 u278 u279 u280 u281 u282 u283 u284 u285 u286 u287 u288 u289 u290 u291 u292 u293 u294 u295 u296 u297 u298 u299 u300 u301 u302 u303 u304 u305 u306 u307 u308 u309 u310 u311 u312 u313 u314 u315 u316 u317 u318 u319 u320 u321 u322 u323 u324 u325 u326 u327 u328 u329 u330 u331 u332 u333 u334 u335 u336 u337 u338 u339 u340 u341 u342 u343 u344 u345 u346 u347 u348 u349 u350 u351 u352 u353 u354 u355 u356 u357 u358 u359 u360 u361 u362 u363 u364 u365 u366 u367 u368 u369 u370 u371 u372 u373 u374 u375 u376 u377 u378 u379 u380 u381 u382 u383 u384 u385 u386 u387 u388 u389 u390 u391 u392 u393 u394 u395 u396 u397 u398 u399 u400 u401 u402 u403 u404 u405 u406 u407 u408 u409 u410 u411 u412 u413 u414 u415 u416 u417 u418 u419 u420 u421 u422 u423 u424 u425 u426 u427 u428 u429 u430 u431 u432 u433 u434 u435 u436 u437 u438 u439 u440 u441 u442 u443 u444 u445 u446 u447 u448 u449 u450 u451 u452 u453 u454 u455 u456 u457 u458 u459 u460 u461 u462 u463 u464 u465 u466 u467 u468 u469 u470 u471 u472 u473 u474 u475 u476 u477 u478 u479 u480 u481 u482 u483 u484 u485 u486 u487 u488 u489 u490 u491 u492 u493 u494 u495 u496 u497 u498 u499 u500 u501 u502 u503 u504 u505 u506 u507 u508 u509 u510 u511 u512 u513 u514 u515 u516 u517 u518 u519 u520 u521 u522 u523 u524 u525 u526 u527 u528 u529 u530 u531 u532 u533 u534 u535 u536 u537 u538 u539 u540 u541 u542 u543 u544 u545 u546 u547 u548 u549 u550 u551 u552 u553 u554 u555 u556 u557 u558 u559 : Value}
 {kj56 : Nat}
 (HJ56 : Aside0 (kj56 + 1 ≤ k))
 {t363 : ByteArray}
 {t364 : Int}
 {t365 : ByteArray}
 {t366 : Bool}
 {t367 : ByteArray}
 {t368 : Bool}
 {t369 t370 : Int}
 {t371 : ByteArray}
 {t372 : Bool}
 (A200 : Aside0 (impl_RowOfNumber.f kj56 t369 t370 = some (t371, t372)))
 {t373 : ByteArray}
 {t374 : Bool}
 {t375 : ByteArray}
 {t376 : Int}
 {t377 : Bool}
 {t378 : Int}
 {t379 : Bool}
 {x1_ : Act → World → Prop}
 (x2_ : ∀ (a : Act) (w_1 : World), Code.wp Tryz.prog (cdd Tryz.f3 [1, 1, 1, 1, 1, 1, 1, 1, 1, 1, 1, 1, 1, 1, 1, 1, 1, 1, 1, 1, 1, 1, 1, 1, 1, 1, 1, 1, 1, 1, 1, 1, 1, 1]) (bodyPost Tryz.prog Tryz.f3 fun e w' => e = Ending.returned (Value.bool r) ∧ Below (Array.size w.heap) w w') a w_1 → x1_ a w_1)
 {wc : World}
 {u576 u587 u593 u600 u605 u606 u607 u608 u609 u612 u613 u614 u615 u616 u617 u618 u619 u620 u621 u622 u623 u624 u625 u626 u627 u628 u629 u630 u631 u632 u633 u634 u635 u636 u637 : Value}
 {kq : Nat}
 {x638_210 : Bool}
 (HA : Aside0 (j7 kq t363 t364 t365 t369 t370 t371 t372 x638_210 = some r))
 (HJ210 : Aside0 (kq ≤ kj56))
 (HB : Aside0 (Below (Array.size w.heap) w wc)) :
 Code.wp Tryz.prog (cdd Tryz.f3 [1, 1, 1, 1, 1, 1, 1, 1, 1, 1, 1, 1, 1, 1, 1, 1, 1, 1, 1, 1, 1, 1, 1, 1, 1, 1, 1, 1, 1, 1, 1, 1, 1, 0, 1]) (Exit.then x1_ (bodyPost Tryz.prog Tryz.f3 fun e w' => e = Ending.returned (Value.bool r) ∧ Below (Array.size w.heap) w w')) { tmps := #[Value.slice A0 (List.length l0) c0, Value.slice A1 (List.length l1) c1, undef, undef, u4, Value.string t294, Value.int IntKind.i64 t295, Value.bool t296, Value.int IntKind.i64 t297, Value.bool t298, Value.string t299, Value.bool t300, Value.string t301, Value.bool t302, Value.int IntKind.i64 t303, Value.bool t304, Value.int IntKind.i64 t305, Value.bool t306, Value.slice Ao75 (List.length t307) co75, Value.bool t308, Value.slice Ao76 (List.length t311) co76, Value.bool t312, Value.slice Ao77 (List.length t315) co77, Value.bool t316, Value.slice Ao78 (List.length t319) co78, Value.bool t320, Value.string t323, Value.bool t324, Value.string t325, Value.bool t326, Value.bool t327, Value.bool t328, Value.bool t329, Value.bool t330, Value.string t331, Value.bool t332, Value.string t333, Value.bool t334, Value.string t335, Value.bool t336, Value.string t337, Value.bool t338, u42, u43, u44, u45, u46, undef, u48, u49, u50, u51, u52, u53, u54, u55, u56, u57, u58, u59, Value.string t363, Value.int IntKind.i64 t364, Value.string t365, Value.bool t366, Value.string t367, Value.bool t368, Value.int IntKind.i64 t369, Value.int IntKind.i64 t370, Value.string t371, Value.bool t372, Value.string t373, Value.bool t374, Value.string t375, Value.int IntKind.i64 t376, Value.bool t377, Value.int IntKind.i64 t378, Value.bool t379, undef, undef, undef, undef, undef, undef, Value.slice A0 (List.length l0) c0, Value.slice A1 (List.length l1) c1, Value.bool false, Value.slice A0 (List.length l0) c0, Value.string t294, Value.tuple #[Value.int IntKind.i64 t295, Value.bool t296], Value.string t294, Value.tuple #[Value.int IntKind.i64 t295, Value.bool t296], Value.int IntKind.i64 t295, Value.bool t296, Value.tuple #[Value.int IntKind.i64 t297, Value.bool t298], Value.string t294, Value.tuple #[Value.int IntKind.i64 t297, Value.bool t298], Value.int IntKind.i64 t297, Value.bool t298, Value.tuple #[Value.string t299, Value.bool t300], Value.string t294, Value.tuple #[Value.string t299, Value.bool t300], Value.string t299, Value.bool t300, Value.tuple #[Value.string t301, Value.bool t302], Value.string t294, Value.tuple #[Value.string t301, Value.bool t302], Value.string t301, Value.bool t302, Value.tuple #[Value.int IntKind.i64 t303, Value.bool t304], Value.string t294, Value.tuple #[Value.int IntKind.i64 t303, Value.bool t304], Value.int IntKind.i64 t303, Value.bool t304, Value.tuple #[Value.int IntKind.i64 t305, Value.bool t306], Value.string t294, Value.tuple #[Value.int IntKind.i64 t305, Value.bool t306], Value.int IntKind.i64 t305, Value.bool t306, Value.tuple #[Value.slice Ao75 (List.length t307) co75, Value.bool t308], Value.string t294, Value.tuple #[Value.slice Ao75 (List.length t307) co75, Value.bool t308], Value.slice Ao75 (List.length t307) co75, Value.bool t308, Value.tuple #[Value.slice Ao76 (List.length t311) co76, Value.bool t312], Value.string t294, Value.tuple #[Value.slice Ao76 (List.length t311) co76, Value.bool t312], Value.slice Ao76 (List.length t311) co76, Value.bool t312, Value.tuple #[Value.slice Ao77 (List.length t315) co77, Value.bool t316], Value.string t294, Value.tuple #[Value.slice Ao77 (List.length t315) co77, Value.bool t316], Value.slice Ao77 (List.length t315) co77, Value.bool t316, Value.tuple #[Value.slice Ao78 (List.length t319) co78, Value.bool t320], Value.string t294, Value.tuple #[Value.slice Ao78 (List.length t319) co78, Value.bool t320], Value.slice Ao78 (List.length t319) co78, Value.bool t320, Value.tuple #[Value.string t323, Value.bool t324], Value.string t294, Value.tuple #[Value.string t323, Value.bool t324], Value.string t323, Value.bool t324, Value.tuple #[Value.string t325, Value.bool t326], Value.string t294, Value.tuple #[Value.string t325, Value.bool t326], Value.string t325, Value.bool t326, Value.tuple #[Value.bool t327, Value.bool t328], Value.string t294, Value.tuple #[Value.bool t327, Value.bool t328], Value.bool t327, Value.bool t328, Value.tuple #[Value.bool t329, Value.bool t330], Value.string t294, Value.tuple #[Value.bool t329, Value.bool t330], Value.bool t329, Value.bool t330, Value.tuple #[Value.string t331, Value.bool t332], Value.string t294, Value.tuple #[Value.string t331, Value.bool t332], Value.string t331, Value.bool t332, Value.tuple #[Value.string t333, Value.bool t334], Value.string t294, Value.tuple #[Value.string t333, Value.bool t334], Value.string t333, Value.bool t334, Value.tuple #[Value.string t335, Value.bool t336], Value.string t294, Value.tuple #[Value.string t335, Value.bool t336], Value.string t335, Value.bool t336, Value.tuple #[Value.string t337, Value.bool t338], Value.string t294, Value.tuple #[Value.string t337, Value.bool t338], Value.string t337, Value.bool t338, Value.bool t296, Value.bool t298, Value.bool false, Value.bool false, Value.int IntKind.i64 t295, Value.int IntKind.i64 t297, Value.bool false, Value.bool false, Value.bool false, Value.bool t300, Value.bool t302, Value.bool false, Value.bool false, Value.bool false, Value.string t299, Value.string t301, Value.bool false, Value.bool false, Value.bool false, Value.bool t304, Value.bool t306, Value.bool false, Value.bool false, Value.bool false, Value.int IntKind.i64 t303, Value.int IntKind.i64 t305, Value.bool false, Value.bool false, Value.bool false, Value.bool t308, Value.bool t312, Value.bool false, Value.bool false, Value.bool false, Value.slice Ao75 (List.length t307) co75, Value.slice Ao76 (List.length t311) co76, Value.bool true, Value.bool false, Value.bool false, Value.bool false, Value.bool t316, Value.bool t320, Value.bool false, Value.bool false, Value.bool false, Value.slice Ao77 (List.length t315) co77, Value.slice Ao78 (List.length t319) co78, Value.bool true, Value.bool false, Value.bool false, Value.bool false, Value.bool t324, Value.bool t326, Value.bool false, Value.bool false, Value.bool false, Value.string t323, Value.string t325, Value.bool false, Value.bool false, Value.bool false, Value.bool t328, Value.bool t330, Value.bool false, Value.bool false, Value.bool false, Value.bool t327, Value.bool t329, Value.bool false, Value.bool false, Value.bool false, Value.bool t332, Value.bool t334, Value.bool false, Value.bool false, Value.bool false, Value.string t331, Value.string t333, Value.bool false, Value.bool false, Value.bool false, Value.bool t336, Value.bool t338, Value.bool false, u262, u263, Value.string t335, Value.string t337, u266, u267, u268, u269, Value.string t294, u271, u272, u273, u274, Value.string t294, u276, Value.string t294, u278, u279, u280, u281, u282, u283, u284, u285, u286, u287, u288, u289, u290, u291, u292, u293, u294, u295, u296, u297, u298, u299, u300, u301, u302, u303, u304, u305, u306, u307, u308, u309, u310, u311, u312, u313, u314, u315, u316, u317, u318, u319, u320, u321, u322, u323, u324, u325, u326, u327, u328, u329, u330, u331, u332, u333, u334, u335, u336, u337, u338, u339, u340, u341, u342, u343, u344, u345, u346, u347, u348, u349, u350, u351, u352, u353, u354, u355, u356, u357, u358, u359, u360, u361, u362, u363, u364, u365, u366, u367, u368, u369, u370, u371, u372, u373, u374, u375, u376, u377, u378, u379, u380, u381, u382, u383, u384, u385, u386, u387, u388, u389, u390, u391, u392, u393, u394, u395, u396, u397, u398, u399, u400, u401, u402, u403, u404, u405, u406, u407, u408, u409, u410, u411, u412, u413, u414, u415, u416, u417, u418, u419, u420, u421, u422, u423, u424, u425, u426, u427, u428, u429, u430, u431, u432, u433, u434, u435, u436, u437, u438, u439, u440, u441, u442, u443, u444, u445, u446, u447, u448, u449, u450, u451, u452, u453, u454, u455, u456, u457, u458, u459, u460, u461, u462, u463, u464, u465, u466, u467, u468, u469, u470, u471, u472, u473, u474, u475, u476, u477, u478, u479, u480, u481, u482, u483, u484, u485, u486, u487, u488, u489, u490, u491, u492, u493, u494, u495, u496, u497, u498, u499, u500, u501, u502, u503, u504, u505, u506, u507, u508, u509, u510, u511, u512, u513, u514, u515, u516, u517, u518, u519, u520, u521, u522, u523, u524, u525, u526, u527, u528, u529, u530, u531, u532, u533, u534, u535, u536, u537, u538, u539, u540, u541, u542, u543, u544, u545, u546, u547, u548, u549, u550, u551, u552, u553, u554, u555, u556, u557, u558, u559, Value.tuple #[Value.string t363, Value.int IntKind.i64 t364], Value.slice A1 (List.length l1) c1, Value.tuple #[Value.string t363, Value.int IntKind.i64 t364], Value.string t363, Value.int IntKind.i64 t364, Value.tuple #[Value.string t365, Value.bool t366], Value.string t363, Value.int IntKind.i64 t364, Value.tuple #[Value.string t365, Value.bool t366], Value.string t365, Value.bool t366, Value.tuple #[Value.string t367, Value.bool t368], Value.string t363, Value.int IntKind.i64 t364, Value.tuple #[Value.string t367, Value.bool t368], Value.string t367, u576, Value.tuple #[Value.int IntKind.i64 t369, Value.int IntKind.i64 t370], Value.slice A1 (List.length l1) c1, Value.tuple #[Value.int IntKind.i64 t369, Value.int IntKind.i64 t370], Value.int IntKind.i64 t369, Value.int IntKind.i64 t370, Value.tuple #[Value.string t371, Value.bool t372], Value.int IntKind.i64 t369, Value.int IntKind.i64 t370, Value.tuple #[Value.string t371, Value.bool t372], Value.string t371, u587, Value.tuple #[Value.string t373, Value.bool t374], Value.int IntKind.i64 t369, Value.int IntKind.i64 t370, Value.tuple #[Value.string t373, Value.bool t374], Value.string t373, u593, Value.slice A1 (List.length l1) c1, Value.string t375, Value.tuple #[Value.int IntKind.i64 t376, Value.bool t377], Value.string t375, Value.tuple #[Value.int IntKind.i64 t376, Value.bool t377], Value.int IntKind.i64 t376, u600, Value.tuple #[Value.int IntKind.i64 t378, Value.bool t379], Value.string t375, Value.tuple #[Value.int IntKind.i64 t378, Value.bool t379], Value.int IntKind.i64 t378, u605, u606, u607, u608, u609, Value.string t365, Value.string t367, u612, u613, u614, u615, u616, u617, u618, u619, u620, u621, u622, u623, u624, u625, u626, u627, u628, u629, u630, u631, u632, u633, u634, u635, u636, u637, Value.bool x638_210, undef, undef, undef, undef, undef, undef, undef, undef, undef, undef, undef, undef, undef, undef, undef, undef, undef, undef, undef, undef, undef, undef, undef, undef, undef, undef, undef, undef, undef, undef, undef, undef, undef, undef, undef], defers := [] } wc := by
 conv at x2_ in cdd _ _ => whnf
 conv in cdd _ _ => whnf
 try dsimp only
 cases kq with
 | zero => exact absurd HA.out (by simp [laws_FnRowsRest.j7])
 | succ kj210 =>
  have H := HA.out
  clear HA
  simp only [laws_FnRowsRest.j7] at H
  by_cases c220 : x638_210 = true
  ·subst c220
   rw [if_pos rfl] at H
   have H' := Aside0.mk H
   clear H
   go_wp2
   go_loopg [77, 78] kj210 (fun kq v77 v78 w' => ∃ (x77_3 : ByteArray) (x78_3 : Int), v77 = .string x77_3 ∧ v78 = .int .i64 x78_3 ∧ Aside0 (laws_FnRowsRest.l4 kq t364 t365 t369 t370 t371 t372 x77_3 x78_3 = some r) ∧ Aside0 (kq ≤ kj210) ∧ Aside0 (Below w.heap.size w w'))
   case atStart => exact ⟨(t363), (0), (rs), (rs), H', ⟨Nat.le_refl _⟩, ⟨bw⟩⟩
   case round =>
    clear H'
    repeat (first|clear c22)
    obtain ⟨x77_3, x78_3, rfl, rfl, HA, HK3, HB⟩ := hrel
    cases gk with
    | zero => exact absurd HA.out (by simp [laws_FnRowsRest.l4])
    | succ k3 =>
     have H := HA.out
     clear HA
     simp only [laws_FnRowsRest.l4] at H
     by_cases c221 : x78_3 < t364
     ·rw [if_pos c221] at H
      have c221b0 := decide_eq_true c221
      clear c221
      replace H := ob H
      obtain ⟨⟨t380, t381⟩, A222, H⟩ := H
      (try dsimp only at H)
      replace H := ofr HRT H
      obtain ⟨c223, H⟩ := H
      subst c223
      have H' := Aside0.mk H
      clear H
      go_wp2_with (first | ((with_reducible refine gc 16 ?_); refine gl (some 647) Tryz.func16 #[.string x77_3] ?_; (with_reducible refine (impl_TickRow.calls x77_3 t380 true _ ?_ A222.out).mono ?_); exact Dr.mm HMM; rintro e w224 ⟨rfl, hb⟩; refine ⟨_, rfl, ?_⟩; replace HB := bs hb; (try clear hb)))
      go_roundg k3
      case measure => have := HJ56.out; have := HJ210.out; have := HK3.out; omega
      case rel => exact ⟨(t380), (wrap64 (x78_3 + 1)), (rs), (rs), H', ⟨by have := HJ56.out; have := HJ210.out; have := HK3.out; omega⟩, ⟨bw⟩⟩
     rw [if_neg c221] at H
     have c221b0 := decide_eq_false c221
     clear c221
     replace H := ofr HRT H
     obtain ⟨c225, H⟩ := H
     have c225b0 : (x77_3.toList == t365.toList) = true := beq_iff_eq.mpr c225
     have c225b1 : (x77_3.toList != t365.toList) = false := bne_eq_false_iff_eq.mpr c225
     clear c225
     by_cases c226 : t372 = true
     ·subst c226
      rw [if_pos rfl] at H
      replace H := ob H
      obtain ⟨⟨t382, t383⟩, A227, H⟩ := H
      (try dsimp only at H)
      replace H := ofr HRT H
      obtain ⟨c228, H⟩ := H
      subst c228
      replace H := ofr HRT H
      obtain ⟨c229, H⟩ := H
      have c229b0 : (t382 == t370) = true := beq_iff_eq.mpr c229
      have c229b1 : (t382 != t370) = false := bne_eq_false_iff_eq.mpr c229
      clear c229
      obtain rfl := Option.some.inj H
      go_wp2_with (first | ((with_reducible refine gc 30 ?_); refine gl (some 659) Tryz.func30 #[.string t371] ?_; (with_reducible refine (impl_NumberOfRow.calls k3 t371 t382 true _ A227.out).mono ?_); rintro e w230 ⟨rfl, hb⟩; refine ⟨_, rfl, ?_⟩; replace HB := bs hb; (try clear hb)))
      go_ret
      exact ⟨rs, bw⟩
     replace c226 := Bool.eq_false_iff.mpr c226
     subst c226
     rw [if_neg (show ¬ (false = true) by decide)] at H
     obtain rfl := Option.some.inj H
     go_wp2
     go_ret
     exact ⟨rs, bw⟩
  replace c220 := Bool.eq_false_iff.mpr c220
  subst c220
  rw [if_neg (show ¬ (false = true) by decide)] at H
  by_cases c231 : t372 = true
  ·subst c231
   rw [if_pos rfl] at H
   replace H := ob H
   obtain ⟨⟨t384, t385⟩, A232, H⟩ := H
   (try dsimp only at H)
   replace H := ofr HRT H
   obtain ⟨c233, H⟩ := H
   subst c233
   replace H := ofr HRT H
   obtain ⟨c234, H⟩ := H
   have c234b0 : (t384 == t370) = true := beq_iff_eq.mpr c234
   have c234b1 : (t384 != t370) = false := bne_eq_false_iff_eq.mpr c234
   clear c234
   obtain rfl := Option.some.inj H
   go_wp2_with (first | ((with_reducible refine gc 30 ?_); refine gl (some 659) Tryz.func30 #[.string t371] ?_; (with_reducible refine (impl_NumberOfRow.calls kj210 t371 t384 true _ A232.out).mono ?_); rintro e w235 ⟨rfl, hb⟩; refine ⟨_, rfl, ?_⟩; replace HB := bs hb; (try clear hb)))
   go_ret
   exact ⟨rs, bw⟩
  replace c231 := Bool.eq_false_iff.mpr c231
  subst c231
  rw [if_neg (show ¬ (false = true) by decide)] at H
  obtain rfl := Option.some.inj H
  go_wp2
  go_ret
  exact ⟨rs, bw⟩

set_option maxHeartbeats 80000000 in
set_option maxRecDepth 100000 in
theorem laws_FnRowsRest.r1
 {k : Nat}
 {A0 : Option Addr}
 {c0 : Nat}
 {l0 : List Int}
 {A1 : Option Addr}
 {c1 : Nat}
 {l1 : List Int}
 {r : Bool}
 {w : World}
 (HR1 : Aside0 (Kd.C (Kd.int IntKind.u8) w A1 (List.length l1) l1))
 (HC1 : Aside0 (List.length l1 ≤ c1))
 (HRT : Aside0 (r = true))
 (HMM : Aside0 (Dr.Tab w))
 {t294 : ByteArray}
 {t295 : Int}
 {t296 : Bool}
 {t297 : Int}
 {t298 : Bool}
 {t299 : ByteArray}
 {t300 : Bool}
 {t301 : ByteArray}
 {t302 : Bool}
 {t303 : Int}
 {t304 : Bool}
 {t305 : Int}
 {t306 : Bool}
 {t307 : List Int}
 {t308 : Bool}
 {t311 : List Int}
 {t312 : Bool}
 {t315 : List Int}
 {t316 : Bool}
 {t319 : List Int}
 {t320 : Bool}
 {t323 : ByteArray}
 {t324 : Bool}
 {t325 : ByteArray}
 {t326 t327 t328 t329 t330 : Bool}
 {t331 : ByteArray}
 {t332 : Bool}
 {t333 : ByteArray}
 {t334 : Bool}
 {t335 : ByteArray}
 {t336 : Bool}
 {t337 : ByteArray}
 {t338 : Bool}
 {Ao75 : Option Addr}
 {co75 : Nat}
 {Ao76 : Option Addr}
 {co76 : Nat}
 {Ao77 : Option Addr}
 {co77 : Nat}
 {Ao78 : Option Addr}
 {co78 : Nat}
 {wc : World}
 {u4 u42 u43 u44 u45 u46 u48 u49 u50 u51 u52 u53 u54 u55 u56 u57 u58 u59 u262 u263 u266 u267 u268 u269 u271 u272 u273 u274 u276 u278 u279 u280 u281 u282 u283 u284 u285 u286 u287 u288 u289 u290 u291 u292 u293 u294 u295 u296 u297 u298 u299 u300 u301 u302 u303 u304 u305 u306 u307 u308 u309 u310 u311 u312 u313 u314 u315 u316 u317 u318 u319 u320 u321 u322 u323 u324 u325 u326 u327 u328 u329 u330 u331 u332 u333 u334 u335 u336 u337 u338 u339 u340 u341 u342 u343 u344 u345 u346 u347 u348 u349 u350 u351 u352 u353 u354 u355 u356 u357 u358 u359 u360 u361 u362 u363 u364 u365 u366 u367 u368 u369 u370 u371 u372 u373 u374 u375 u376 u377 u378 u379 u380 u381 u382 u383 u384 u385 u386 u387 u388 u389 u390 u391 u392 u393 u394 u395 u396 u397 u398 u399 u400 u401 u402 u403 u404 u405 u406 u407 u408 u409 u410 u411 u412 u413 u414 u415 u416 u417 u418 u419 u420 u421 u422 u423 u424 u425 u426 u427 u428 u429 u430 u431 u432 u433 u434 u435 u436 u437 u438 u439 u440 u441 u442 u443 u444 u445 u446 u447 u448 u449 u450 u451 u452 u453 u454 u455 u456 u457 u458 u459 u460 u461 u462 u463 u464 u465 u466 u467 u468 u469 u470 u471 u472 u473 u474 u475 u476 u477 u478 u479 u480 u481 u482 u483 u484 u485 u486 u487 u488 u489 u490 u491 u492 u493 u494 u495 u496 u497 u498 u499 u500 u501 u502 u503 u504 u505 u506 u507 u508 u509 u510 u511 u512 u513 u514 u515 u516 u517 u518 u519 u520 u521 u522 u523 u524 u525 u526 u527 u528 u529 u530 u531 u532 u533 u534 u535 u536 u537 u538 u539 u540 u541 u542 u543 u544 u545 u546 u547 u548 u549 u550 u551 u552 u553 u554 u555 u556 u557 u558 u559 : Value}
 {kq : Nat}
 (HA : Aside0 (j6 kq l1 = some r))
 (HJ56 : Aside0 (kq ≤ k))
 (HB : Aside0 (Below (Array.size w.heap) w wc)) :
 Code.wp Tryz.prog (cdd Tryz.f3 [1, 1, 1, 1, 1, 1, 1, 1, 1, 1, 1, 1, 1, 1, 1, 1, 1, 1, 1, 1, 1, 1, 1]) (bodyPost Tryz.prog Tryz.f3 fun e w' => e = Ending.returned (Value.bool r) ∧ Below (Array.size w.heap) w w') { tmps := #[Value.slice A0 (List.length l0) c0, Value.slice A1 (List.length l1) c1, undef, undef, u4, Value.string t294, Value.int IntKind.i64 t295, Value.bool t296, Value.int IntKind.i64 t297, Value.bool t298, Value.string t299, Value.bool t300, Value.string t301, Value.bool t302, Value.int IntKind.i64 t303, Value.bool t304, Value.int IntKind.i64 t305, Value.bool t306, Value.slice Ao75 (List.length t307) co75, Value.bool t308, Value.slice Ao76 (List.length t311) co76, Value.bool t312, Value.slice Ao77 (List.length t315) co77, Value.bool t316, Value.slice Ao78 (List.length t319) co78, Value.bool t320, Value.string t323, Value.bool t324, Value.string t325, Value.bool t326, Value.bool t327, Value.bool t328, Value.bool t329, Value.bool t330, Value.string t331, Value.bool t332, Value.string t333, Value.bool t334, Value.string t335, Value.bool t336, Value.string t337, Value.bool t338, u42, u43, u44, u45, u46, undef, u48, u49, u50, u51, u52, u53, u54, u55, u56, u57, u58, u59, undef, undef, undef, undef, undef, undef, undef, undef, undef, undef, undef, undef, undef, undef, undef, undef, undef, undef, undef, undef, undef, undef, undef, Value.slice A0 (List.length l0) c0, Value.slice A1 (List.length l1) c1, Value.bool false, Value.slice A0 (List.length l0) c0, Value.string t294, Value.tuple #[Value.int IntKind.i64 t295, Value.bool t296], Value.string t294, Value.tuple #[Value.int IntKind.i64 t295, Value.bool t296], Value.int IntKind.i64 t295, Value.bool t296, Value.tuple #[Value.int IntKind.i64 t297, Value.bool t298], Value.string t294, Value.tuple #[Value.int IntKind.i64 t297, Value.bool t298], Value.int IntKind.i64 t297, Value.bool t298, Value.tuple #[Value.string t299, Value.bool t300], Value.string t294, Value.tuple #[Value.string t299, Value.bool t300], Value.string t299, Value.bool t300, Value.tuple #[Value.string t301, Value.bool t302], Value.string t294, Value.tuple #[Value.string t301, Value.bool t302], Value.string t301, Value.bool t302, Value.tuple #[Value.int IntKind.i64 t303, Value.bool t304], Value.string t294, Value.tuple #[Value.int IntKind.i64 t303, Value.bool t304], Value.int IntKind.i64 t303, Value.bool t304, Value.tuple #[Value.int IntKind.i64 t305, Value.bool t306], Value.string t294, Value.tuple #[Value.int IntKind.i64 t305, Value.bool t306], Value.int IntKind.i64 t305, Value.bool t306, Value.tuple #[Value.slice Ao75 (List.length t307) co75, Value.bool t308], Value.string t294, Value.tuple #[Value.slice Ao75 (List.length t307) co75, Value.bool t308], Value.slice Ao75 (List.length t307) co75, Value.bool t308, Value.tuple #[Value.slice Ao76 (List.length t311) co76, Value.bool t312], Value.string t294, Value.tuple #[Value.slice Ao76 (List.length t311) co76, Value.bool t312], Value.slice Ao76 (List.length t311) co76, Value.bool t312, Value.tuple #[Value.slice Ao77 (List.length t315) co77, Value.bool t316], Value.string t294, Value.tuple #[Value.slice Ao77 (List.length t315) co77, Value.bool t316], Value.slice Ao77 (List.length t315) co77, Value.bool t316, Value.tuple #[Value.slice Ao78 (List.length t319) co78, Value.bool t320], Value.string t294, Value.tuple #[Value.slice Ao78 (List.length t319) co78, Value.bool t320], Value.slice Ao78 (List.length t319) co78, Value.bool t320, Value.tuple #[Value.string t323, Value.bool t324], Value.string t294, Value.tuple #[Value.string t323, Value.bool t324], Value.string t323, Value.bool t324, Value.tuple #[Value.string t325, Value.bool t326], Value.string t294, Value.tuple #[Value.string t325, Value.bool t326], Value.string t325, Value.bool t326, Value.tuple #[Value.bool t327, Value.bool t328], Value.string t294, Value.tuple #[Value.bool t327, Value.bool t328], Value.bool t327, Value.bool t328, Value.tuple #[Value.bool t329, Value.bool t330], Value.string t294, Value.tuple #[Value.bool t329, Value.bool t330], Value.bool t329, Value.bool t330, Value.tuple #[Value.string t331, Value.bool t332], Value.string t294, Value.tuple #[Value.string t331, Value.bool t332], Value.string t331, Value.bool t332, Value.tuple #[Value.string t333, Value.bool t334], Value.string t294, Value.tuple #[Value.string t333, Value.bool t334], Value.string t333, Value.bool t334, Value.tuple #[Value.string t335, Value.bool t336], Value.string t294, Value.tuple #[Value.string t335, Value.bool t336], Value.string t335, Value.bool t336, Value.tuple #[Value.string t337, Value.bool t338], Value.string t294, Value.tuple #[Value.string t337, Value.bool t338], Value.string t337, Value.bool t338, Value.bool t296, Value.bool t298, Value.bool false, Value.bool false, Value.int IntKind.i64 t295, Value.int IntKind.i64 t297, Value.bool false, Value.bool false, Value.bool false, Value.bool t300, Value.bool t302, Value.bool false, Value.bool false, Value.bool false, Value.string t299, Value.string t301, Value.bool false, Value.bool false, Value.bool false, Value.bool t304, Value.bool t306, Value.bool false, Value.bool false, Value.bool false, Value.int IntKind.i64 t303, Value.int IntKind.i64 t305, Value.bool false, Value.bool false, Value.bool false, Value.bool t308, Value.bool t312, Value.bool false, Value.bool false, Value.bool false, Value.slice Ao75 (List.length t307) co75, Value.slice Ao76 (List.length t311) co76, Value.bool true, Value.bool false, Value.bool false, Value.bool false, Value.bool t316, Value.bool t320, Value.bool false, Value.bool false, Value.bool false, Value.slice Ao77 (List.length t315) co77, Value.slice Ao78 (List.length t319) co78, Value.bool true, Value.bool false, Value.bool false, Value.bool false, Value.bool t324, Value.bool t326, Value.bool false, Value.bool false, Value.bool false, Value.string t323, Value.string t325, Value.bool false, Value.bool false, Value.bool false, Value.bool t328, Value.bool t330, Value.bool false, Value.bool false, Value.bool false, Value.bool t327, Value.bool t329, Value.bool false, Value.bool false, Value.bool false, Value.bool t332, Value.bool t334, Value.bool false, Value.bool false, Value.bool false, Value.string t331, Value.string t333, Value.bool false, Value.bool false, Value.bool false, Value.bool t336, Value.bool t338, Value.bool false, u262, u263, Value.string t335, Value.string t337, u266, u267, u268, u269, Value.string t294, u271, u272, u273, u274, Value.string t294, u276, Value.string t294, u278, u279, u280, u281, u282, u283, u284, u285, u286, u287, u288, u289, u290, u291, u292, u293, u294, u295, u296, u297, u298, u299, u300, u301, u302, u303, u304, u305, u306, u307, u308, u309, u310, u311, u312, u313, u314, u315, u316, u317, u318, u319, u320, u321, u322, u323, u324, u325, u326, u327, u328, u329, u330, u331, u332, u333, u334, u335, u336, u337, u338, u339, u340, u341, u342, u343, u344, u345, u346, u347, u348, u349, u350, u351, u352, u353, u354, u355, u356, u357, u358, u359, u360, u361, u362, u363, u364, u365, u366, u367, u368, u369, u370, u371, u372, u373, u374, u375, u376, u377, u378, u379, u380, u381, u382, u383, u384, u385, u386, u387, u388, u389, u390, u391, u392, u393, u394, u395, u396, u397, u398, u399, u400, u401, u402, u403, u404, u405, u406, u407, u408, u409, u410, u411, u412, u413, u414, u415, u416, u417, u418, u419, u420, u421, u422, u423, u424, u425, u426, u427, u428, u429, u430, u431, u432, u433, u434, u435, u436, u437, u438, u439, u440, u441, u442, u443, u444, u445, u446, u447, u448, u449, u450, u451, u452, u453, u454, u455, u456, u457, u458, u459, u460, u461, u462, u463, u464, u465, u466, u467, u468, u469, u470, u471, u472, u473, u474, u475, u476, u477, u478, u479, u480, u481, u482, u483, u484, u485, u486, u487, u488, u489, u490, u491, u492, u493, u494, u495, u496, u497, u498, u499, u500, u501, u502, u503, u504, u505, u506, u507, u508, u509, u510, u511, u512, u513, u514, u515, u516, u517, u518, u519, u520, u521, u522, u523, u524, u525, u526, u527, u528, u529, u530, u531, u532, u533, u534, u535, u536, u537, u538, u539, u540, u541, u542, u543, u544, u545, u546, u547, u548, u549, u550, u551, u552, u553, u554, u555, u556, u557, u558, u559, undef, undef, undef, undef, undef, undef, undef, undef, undef, undef, undef, undef, undef, undef, undef, undef, undef, undef, undef, undef, undef, undef, undef, undef, undef, undef, undef, undef, undef, undef, undef, undef, undef, undef, undef, undef, undef, undef, undef, undef, undef, undef, undef, undef, undef, undef, undef, undef, undef, undef, undef, undef, undef, undef, undef, undef, undef, undef, undef, undef, undef, undef, undef, undef, undef, undef, undef, undef, undef, undef, undef, undef, undef, undef, undef, undef, undef, undef, undef, undef, undef, undef, undef, undef, undef, undef, undef, undef, undef, undef, undef, undef, undef, undef, undef, undef, undef, undef, undef, undef, undef, undef, undef, undef, undef, undef, undef, undef, undef, undef, undef, undef, undef, undef], defers := [] } wc := by
 conv in cdd _ _ => whnf
 try dsimp only
 cases kq with
 | zero => exact absurd HA.out (by simp [laws_FnRowsRest.j6])
 | succ kj56 =>
  have H := HA.out
  clear HA
  simp only [laws_FnRowsRest.j6] at H
  replace H := ob H
  obtain ⟨⟨t363, t364⟩, A196, H⟩ := H
  (try dsimp only at H)
  replace H := ob H
  obtain ⟨⟨t365, t366⟩, A197, H⟩ := H
  (try dsimp only at H)
  replace H := ob H
  obtain ⟨⟨t367, t368⟩, A198, H⟩ := H
  (try dsimp only at H)
  replace H := ob H
  obtain ⟨⟨t369, t370⟩, A199, H⟩ := H
  (try dsimp only at H)
  replace H := ob H
  obtain ⟨⟨t371, t372⟩, A200, H⟩ := H
  (try dsimp only at H)
  replace H := ob H
  obtain ⟨⟨t373, t374⟩, A201, H⟩ := H
  (try dsimp only at H)
  replace H := ob H
  obtain ⟨t375, A202, H⟩ := H
  (try dsimp only at H)
  replace H := ob H
  obtain ⟨⟨t376, t377⟩, A203, H⟩ := H
  (try dsimp only at H)
  replace H := ob H
  obtain ⟨⟨t378, t379⟩, A204, H⟩ := H
  (try dsimp only at H)
  replace H := ofl HRT H
  obtain ⟨c205, H⟩ := H
  have c205b0 : (t366 != t368) = false := by simpa using c205
  (try (have c205b1 : decide (t366 = t368) = true := by simpa using c205))
  (try (have c205b2 : (t366 == t368) = true := by simpa using c205))
  clear c205
  replace H := ofr HRT H
  obtain ⟨c206, H⟩ := H
  have c206b0 : (t365.toList == t367.toList) = true := beq_iff_eq.mpr c206
  have c206b1 : (t365.toList != t367.toList) = false := bne_eq_false_iff_eq.mpr c206
  clear c206
  replace H := ofl HRT H
  obtain ⟨c207, H⟩ := H
  have c207b0 : (t372 != t374) = false := by simpa using c207
  (try (have c207b1 : decide (t372 = t374) = true := by simpa using c207))
  (try (have c207b2 : (t372 == t374) = true := by simpa using c207))
  clear c207
  replace H := ofr HRT H
  obtain ⟨c208, H⟩ := H
  have c208b0 : (t371.toList == t373.toList) = true := beq_iff_eq.mpr c208
  have c208b1 : (t371.toList != t373.toList) = false := bne_eq_false_iff_eq.mpr c208
  clear c208
  replace H := ofl HRT H
  obtain ⟨c209, H⟩ := H
  have c209b0 : (t377 != t379) = false := by simpa using c209
  (try (have c209b1 : decide (t377 = t379) = true := by simpa using c209))
  (try (have c209b2 : (t377 == t379) = true := by simpa using c209))
  clear c209
  replace H := ofr HRT H
  obtain ⟨c210, H⟩ := H
  have c210b0 : (t376 == t378) = true := beq_iff_eq.mpr c210
  have c210b1 : (t376 != t378) = false := bne_eq_false_iff_eq.mpr c210
  clear c210
  have HC211 := Aside0.mk H
  clear H
  go_upto_region 72 with (first | ((with_reducible refine gc 32 ?_); refine gl (some 562) Tryz.func32 #[.slice A1 l1.length c1] ?_; (with_reducible refine (spec_DrawRowAfter.calls kj56 _ _ l1 t363 t364 _ ?_ ?_ A196.out).mono ?_); exact cb HR1; exact HC1.out; rintro e w212 ⟨rfl, hb⟩; refine ⟨_, rfl, ?_⟩; replace HB := bs hb; (try clear hb)) | ((with_reducible refine gc 33 ?_); refine gl (some 568) Tryz.func33 #[.string t363, .int .i64 t364] ?_; (with_reducible refine (impl_RowAfter.calls kj56 t363 t364 t365 t366 _ ?_ A197.out).mono ?_); exact Dr.mm HMM; rintro e w213 ⟨rfl, hb⟩; refine ⟨_, rfl, ?_⟩; replace HB := bs hb; (try clear hb)) | ((with_reducible refine gc 34 ?_); refine gl (some 574) Tryz.func34 #[.string t363, .int .i64 t364] ?_; (with_reducible refine (spec_RowAfter.calls kj56 t363 t364 t367 t368 _ A198.out).mono ?_); rintro e w214 ⟨rfl, hb⟩; refine ⟨_, rfl, ?_⟩; replace HB := bs hb; (try clear hb)) | ((with_reducible refine gc 35 ?_); refine gl (some 579) Tryz.func35 #[.slice A1 l1.length c1] ?_; (with_reducible refine (spec_DrawRowOfNumber.calls _ _ l1 t369 t370 _ ?_ ?_ A199.out).mono ?_); exact cb HR1; exact HC1.out; rintro e w215 ⟨rfl, hb⟩; refine ⟨_, rfl, ?_⟩; replace HB := bs hb; (try clear hb)) | ((with_reducible refine gc 31 ?_); refine gl (some 585) Tryz.func31 #[.int .i64 t369, .int .i64 t370] ?_; (with_reducible refine (impl_RowOfNumber.calls kj56 t369 t370 t371 t372 _ A200.out).mono ?_); rintro e w216 ⟨rfl, hb⟩; refine ⟨_, rfl, ?_⟩; replace HB := bs hb; (try clear hb)) | ((with_reducible refine gc 36 ?_); refine gl (some 591) Tryz.func36 #[.int .i64 t369, .int .i64 t370] ?_; (with_reducible refine (spec_RowOfNumber.calls kj56 t369 t370 t373 t374 _ A201.out).mono ?_); rintro e w' ⟨rfl, ⟨nd, rfl⟩⟩; refine ⟨_, rfl, ?_⟩) | ((with_reducible refine gc 37 ?_); refine gl (some 595) Tryz.func37 #[.slice A1 l1.length c1] ?_; (with_reducible refine (spec_DrawNumberOfRow.calls kj56 _ _ l1 t375 _ ?_ ?_ A202.out).mono ?_); repeat (first | exact (Kd.C_below HR1.out bw) | (with_reducible refine Kd.C_alloc ?_ _) | (with_reducible refine Kd.C_drewN ?_ _) | (with_reducible refine Kd.C_drew ?_)); exact HC1.out; rintro e w217 ⟨rfl, hb⟩; refine ⟨_, rfl, ?_⟩; replace HB := bs hb; (try clear hb)) | ((with_reducible refine gc 30 ?_); refine gl (some 598) Tryz.func30 #[.string t375] ?_; (with_reducible refine (impl_NumberOfRow.calls kj56 t375 t376 t377 _ A203.out).mono ?_); rintro e w218 ⟨rfl, hb⟩; refine ⟨_, rfl, ?_⟩; replace HB := bs hb; (try clear hb)) | ((with_reducible refine gc 38 ?_); refine gl (some 603) Tryz.func38 #[.string t375] ?_; (with_reducible refine (spec_NumberOfRow.calls kj56 t375 t378 t379 _ A204.out).mono ?_); rintro e w' ⟨rfl, ⟨nd, rfl⟩⟩; refine ⟨_, rfl, ?_⟩))
  (try simp only [Act.put, List.setIfInBounds_toArray, List.set_cons_zero, List.set_cons_succ])
  go_cut [576, 587, 593, 600, 605, 606, 607, 608, 609, 612, 613, 614, 615, 616, 617, 618, 619, 620, 621, 622, 623, 624, 625, 626, 627, 628, 629, 630, 631, 632, 633, 638] from 9999 (fun _ _ _ _ _ _ _ _ _ _ _ _ _ _ _ _ _ _ _ _ _ _ _ _ _ _ _ _ _ _ _ v638 wc => ∃ (kq : Nat) (x638_210 : Bool), v638 = .bool x638_210 ∧ Aside0 (laws_FnRowsRest.j7 kq t363 t364 t365 t369 t370 t371 t372 x638_210 = some r) ∧ Aside0 (kq ≤ kj56) ∧ Aside0 (Below w.heap.size w wc))
  case first =>
   rename_i J4_ K4_ hJ4_ hM4_
   have H := HC211.out
   clear HC211
   by_cases c219 : t366 = true
   ·subst c219
    rw [if_pos rfl] at H
    have H' := Aside0.mk H
    clear H
    go_wp2
    go_meet
    case rel => exact ⟨_, (decide (t364 ≤ 30)), (rs), H', ⟨by have := HJ56.out; first | omega | exact Nat.le_refl _⟩, ⟨bw⟩⟩
   replace c219 := Bool.eq_false_iff.mpr c219
   subst c219
   rw [if_neg (show ¬ (false = true) by decide)] at H
   have H' := Aside0.mk H
   clear H
   go_wp2
   go_meet
   case rel => exact ⟨_, (false), (rs), H', ⟨by have := HJ56.out; first | omega | exact Nat.le_refl _⟩, ⟨bw⟩⟩
  case rest =>
   clear HC211
   repeat (first|clear c21|clear c33|clear c34|clear c36|clear c37|clear c38|clear c205|clear c205b0|clear c205b1|clear c205b2|clear c206|clear c206b0|clear c206b1|clear c207|clear c207b0|clear c207b1|clear c207b2|clear c208|clear c208b0|clear c208b1|clear c209|clear c209b0|clear c209b1|clear c209b2|clear c210|clear c210b0|clear c210b1)
   obtain ⟨kq, x638_210, rfl, HA, HJ210, HB⟩ := hcut
   go_step
   exact laws_FnRowsRest.r4 HRT HMM HJ56 A200 (by assumption) HA HJ210 HB

set_option maxHeartbeats 80000000 in
set_option maxRecDepth 100000 in
theorem laws_FnRowsRest.calls (k : Nat) (A0 : Option Addr) (c0 : Nat) (l0 : List Int) (A1 : Option Addr) (c1 : Nat) (l1 : List Int) (r : Bool) (w : World) (hm : Dr.Tab w) (hr0 : Kd.C (Kd.int .u8) w A0 l0.length l0) (hc0 : l0.length ≤ c0) (hr1 : Kd.C (Kd.int .u8) w A1 l1.length l1) (hc1 : l1.length ≤ c1) (hrt : r = true) (h : laws_FnRowsRest.f k l0 l1 = some r) :
  Calls Tryz.prog 3 #[.slice A0 l0.length c0, .slice A1 l1.length c1] w fun e w' => e = .returned (.bool r) ∧ Below w.heap.size w w' := by
 have HR0 := Aside0.mk hr0
 have HC0 := Aside0.mk hc0
 clear hr0 hc0
 have HR1 := Aside0.mk hr1
 have HC1 := Aside0.mk hc1
 clear hr1 hc1
 have HB := Aside0.mk (Below.refl w.heap.size w)
 have HRT := Aside0.mk hrt
 clear hrt
 have HMM := Aside0.mk hm
 clear hm
 unfold laws_FnRowsRest.f at h
 have H := h
 clear h
 replace H := ob H
 obtain ⟨t293, A3, H⟩ := H
 (try dsimp only at H)
 by_cases c4 : t293 = true
 ·subst c4
  rw [if_pos rfl] at H
  obtain rfl := Option.some.inj H
  go_enter Tryz.func3, Tryz.ntmps3
  go_wp2_with (first | ((with_reducible refine gc 4 ?_); refine gl (some 85) Tryz.func4 #[.slice A0 l0.length c0, .slice A1 l1.length c1] ?_; (with_reducible refine (laws_big.calls _ _ l0 _ _ l1 true _ ?_ ?_ ?_ ?_ A3.out).mono ?_); repeat (first | exact HR0.out | (with_reducible refine Kd.C_alloc ?_ _) | (with_reducible refine Kd.C_drewN ?_ _) | (with_reducible refine Kd.C_drew ?_)); exact HC0.out; repeat (first | exact HR1.out | (with_reducible refine Kd.C_alloc ?_ _) | (with_reducible refine Kd.C_drewN ?_ _) | (with_reducible refine Kd.C_drew ?_)); exact HC1.out; rintro e w' ⟨rfl, ⟨nd, rfl⟩⟩; refine ⟨_, rfl, ?_⟩))
  go_ret
  exact ⟨rs, bw⟩
 replace c4 := Bool.eq_false_iff.mpr c4
 subst c4
 rw [if_neg (show ¬ (false = true) by decide)] at H
 replace H := ob H
 obtain ⟨t294, A5, H⟩ := H
 (try dsimp only at H)
 replace H := ob H
 obtain ⟨⟨t295, t296⟩, A6, H⟩ := H
 (try dsimp only at H)
 replace H := ob H
 obtain ⟨⟨t297, t298⟩, A7, H⟩ := H
 (try dsimp only at H)
 replace H := ob H
 obtain ⟨⟨t299, t300⟩, A8, H⟩ := H
 (try dsimp only at H)
 replace H := ob H
 obtain ⟨⟨t301, t302⟩, A9, H⟩ := H
 (try dsimp only at H)
 replace H := ob H
 obtain ⟨⟨t303, t304⟩, A10, H⟩ := H
 (try dsimp only at H)
 replace H := ob H
 obtain ⟨⟨t305, t306⟩, A11, H⟩ := H
 (try dsimp only at H)
 replace H := ob H
 obtain ⟨⟨t307, t308⟩, A12, H⟩ := H
 (try dsimp only at H)
 replace H := ob H
 obtain ⟨⟨t311, t312⟩, A13, H⟩ := H
 (try dsimp only at H)
 replace H := ob H
 obtain ⟨⟨t315, t316⟩, A14, H⟩ := H
 (try dsimp only at H)
 replace H := ob H
 obtain ⟨⟨t319, t320⟩, A15, H⟩ := H
 (try dsimp only at H)
 replace H := ob H
 obtain ⟨⟨t323, t324⟩, A16, H⟩ := H
 (try dsimp only at H)
 replace H := ob H
 obtain ⟨⟨t325, t326⟩, A17, H⟩ := H
 (try dsimp only at H)
 replace H := ob H
 obtain ⟨⟨t327, t328⟩, A18, H⟩ := H
 (try dsimp only at H)
 replace H := ob H
 obtain ⟨⟨t329, t330⟩, A19, H⟩ := H
 (try dsimp only at H)
 replace H := ob H
 obtain ⟨⟨t331, t332⟩, A20, H⟩ := H
 (try dsimp only at H)
 replace H := ob H
 obtain ⟨⟨t333, t334⟩, A21, H⟩ := H
 (try dsimp only at H)
 replace H := ob H
 obtain ⟨⟨t335, t336⟩, A22, H⟩ := H
 (try dsimp only at H)
 replace H := ob H
 obtain ⟨⟨t337, t338⟩, A23, H⟩ := H
 (try dsimp only at H)
 go_enter Tryz.func3, Tryz.ntmps3
 go_wp2_with (first | ((with_reducible refine gc 4 ?_); refine gl (some 85) Tryz.func4 #[.slice A0 l0.length c0, .slice A1 l1.length c1] ?_; (with_reducible refine (laws_big.calls _ _ l0 _ _ l1 false _ ?_ ?_ ?_ ?_ A3.out).mono ?_); repeat (first | exact HR0.out | (with_reducible refine Kd.C_alloc ?_ _) | (with_reducible refine Kd.C_drewN ?_ _) | (with_reducible refine Kd.C_drew ?_)); exact HC0.out; repeat (first | exact HR1.out | (with_reducible refine Kd.C_alloc ?_ _) | (with_reducible refine Kd.C_drewN ?_ _) | (with_reducible refine Kd.C_drew ?_)); exact HC1.out; rintro e w' ⟨rfl, ⟨nd, rfl⟩⟩; refine ⟨_, rfl, ?_⟩) | ((with_reducible refine gc 5 ?_); refine gl (some 87) Tryz.func5 #[.slice A0 l0.length c0] ?_; (with_reducible refine (spec_DrawTicksToRest.calls k _ _ l0 t294 _ ?_ ?_ A5.out).mono ?_); repeat (first | exact HR0.out | (with_reducible refine Kd.C_alloc ?_ _) | (with_reducible refine Kd.C_drewN ?_ _) | (with_reducible refine Kd.C_drew ?_)); exact HC0.out; rintro e w58 ⟨rfl, hb⟩; refine ⟨_, rfl, ?_⟩; replace HB := bs hb; (try clear hb)) | ((with_reducible refine gc 6 ?_); refine gl (some 90) Tryz.func6 #[.string t294] ?_; (with_reducible refine (impl_TicksToRest.calls k t294 t295 t296 _ ?_ A6.out).mono ?_); exact Dr.mm HMM; rintro e w59 ⟨rfl, hb⟩; refine ⟨_, rfl, ?_⟩; replace HB := bs hb; (try clear hb)) | ((with_reducible refine gc 7 ?_); refine gl (some 95) Tryz.func7 #[.string t294] ?_; (with_reducible refine (spec_TicksToRest.calls k t294 t297 t298 _ A7.out).mono ?_); rintro e w60 ⟨rfl, hb⟩; refine ⟨_, rfl, ?_⟩; replace HB := bs hb; (try clear hb)) | ((with_reducible refine gc 8 ?_); refine gl (some 100) Tryz.func8 #[.string t294] ?_; (with_reducible refine (impl_RestOf.calls k t294 t299 t300 _ ?_ A8.out).mono ?_); exact Dr.mm HMM; rintro e w61 ⟨rfl, hb⟩; refine ⟨_, rfl, ?_⟩; replace HB := bs hb; (try clear hb)) | ((with_reducible refine gc 9 ?_); refine gl (some 105) Tryz.func9 #[.string t294] ?_; (with_reducible refine (spec_RestOf.calls k t294 t301 t302 _ A9.out).mono ?_); rintro e w62 ⟨rfl, hb⟩; refine ⟨_, rfl, ?_⟩; replace HB := bs hb; (try clear hb)) | ((with_reducible refine gc 10 ?_); refine gl (some 110) Tryz.func10 #[.string t294] ?_; (with_reducible refine (impl_CountTurns.calls k t294 t303 t304 _ ?_ A10.out).mono ?_); exact Dr.mm HMM; rintro e w63 ⟨rfl, hb⟩; refine ⟨_, rfl, ?_⟩; replace HB := bs hb; (try clear hb)) | ((with_reducible refine gc 11 ?_); refine gl (some 115) Tryz.func11 #[.string t294] ?_; (with_reducible refine (spec_CountTurns.calls k t294 t305 t306 _ A11.out).mono ?_); rintro e w64 ⟨rfl, hb⟩; refine ⟨_, rfl, ?_⟩; replace HB := bs hb; (try clear hb)) | ((with_reducible refine gc 12 ?_); refine gl (some 120) Tryz.func12 #[.string t294] ?_; (with_reducible refine (impl_TurnsOfEach.calls k t294 t307 t308 _ ?_ A12.out).mono ?_); exact Dr.mm HMM; rintro e w65 ⟨v309, rfl, ho0, hb⟩; refine ⟨_, rfl, ?_⟩; have HO310 := Aside0.mk (Kd.R_lower ho0 (below_size bw)); replace HB := bs hb; (try clear hb); (try clear ho0)) | ((with_reducible refine gc 13 ?_); refine gl (some 125) Tryz.func13 #[.string t294] ?_; (with_reducible refine (spec_TurnsOfEach.calls k t294 t311 t312 _ A13.out).mono ?_); rintro e w66 ⟨v313, rfl, ho0, hb⟩; refine ⟨_, rfl, ?_⟩; have HO314 := Aside0.mk (Kd.R_lower (Kd.R_new' ho0 (Kd.R_lt (pr HO310))) (below_size bw)); replace HO310 := Aside0.mk (Kd.R_elder' (pr HO310) (Kd.R_base ho0) hb); replace HB := bs hb; (try clear hb); (try clear ho0)) | ((with_reducible refine gc 14 ?_); refine gl (some 130) Tryz.func14 #[.string t294] ?_; (with_reducible refine (impl_FacingPairs.calls k t294 t315 t316 _ A14.out).mono ?_); rintro e w67 ⟨v317, rfl, ho0, hb⟩; refine ⟨_, rfl, ?_⟩; have HO318 := Aside0.mk (Kd.R_lower (Kd.R_new' (Kd.R_new' ho0 (Kd.R_lt (pr HO310))) (Kd.R_lt (pr HO314))) (below_size bw)); replace HO310 := Aside0.mk (Kd.R_elder' (pr HO310) (Kd.R_base ho0) hb); replace HO314 := Aside0.mk (Kd.R_elder' (pr HO314) (Kd.R_base ho0) hb); replace HB := bs hb; (try clear hb); (try clear ho0)) | ((with_reducible refine gc 15 ?_); refine gl (some 135) Tryz.func15 #[.string t294] ?_; (with_reducible refine (spec_FacingPairs.calls k t294 t319 t320 _ A15.out).mono ?_); rintro e w68 ⟨v321, rfl, ho0, hb⟩; refine ⟨_, rfl, ?_⟩; have HO322 := Aside0.mk (Kd.R_lower (Kd.R_new' (Kd.R_new' (Kd.R_new' ho0 (Kd.R_lt (pr HO310))) (Kd.R_lt (pr HO314))) (Kd.R_lt (pr HO318))) (below_size bw)); replace HO310 := Aside0.mk (Kd.R_elder' (pr HO310) (Kd.R_base ho0) hb); replace HO314 := Aside0.mk (Kd.R_elder' (pr HO314) (Kd.R_base ho0) hb); replace HO318 := Aside0.mk (Kd.R_elder' (pr HO318) (Kd.R_base ho0) hb); replace HB := bs hb; (try clear hb); (try clear ho0)) | ((with_reducible refine gc 16 ?_); refine gl (some 140) Tryz.func16 #[.string t294] ?_; (with_reducible refine (impl_TickRow.calls t294 t323 t324 _ ?_ A16.out).mono ?_); exact Dr.mm HMM; rintro e w69 ⟨rfl, hb⟩; refine ⟨_, rfl, ?_⟩; replace HO310 := Aside0.mk (Kd.R_below (pr HO310) hb); replace HO314 := Aside0.mk (Kd.R_below (pr HO314) hb); replace HO318 := Aside0.mk (Kd.R_below (pr HO318) hb); replace HO322 := Aside0.mk (Kd.R_below (pr HO322) hb); replace HB := bs hb; (try clear hb)) | ((with_reducible refine gc 17 ?_); refine gl (some 145) Tryz.func17 #[.string t294] ?_; (with_reducible refine (spec_TickRow.calls k t294 t325 t326 _ A17.out).mono ?_); rintro e w70 ⟨rfl, hb⟩; refine ⟨_, rfl, ?_⟩; replace HO310 := Aside0.mk (Kd.R_below (pr HO310) hb); replace HO314 := Aside0.mk (Kd.R_below (pr HO314) hb); replace HO318 := Aside0.mk (Kd.R_below (pr HO318) hb); replace HO322 := Aside0.mk (Kd.R_below (pr HO322) hb); replace HB := bs hb; (try clear hb)) | ((with_reducible refine gc 18 ?_); refine gl (some 150) Tryz.func18 #[.string t294] ?_; (with_reducible refine (impl_IsAtRest.calls t294 t327 t328 _ ?_ A18.out).mono ?_); exact Dr.mm HMM; rintro e w71 ⟨rfl, hb⟩; refine ⟨_, rfl, ?_⟩; replace HO310 := Aside0.mk (Kd.R_below (pr HO310) hb); replace HO314 := Aside0.mk (Kd.R_below (pr HO314) hb); replace HO318 := Aside0.mk (Kd.R_below (pr HO318) hb); replace HO322 := Aside0.mk (Kd.R_below (pr HO322) hb); replace HB := bs hb; (try clear hb)) | ((with_reducible refine gc 19 ?_); refine gl (some 155) Tryz.func19 #[.string t294] ?_; (with_reducible refine (spec_IsAtRest.calls k t294 t329 t330 _ A19.out).mono ?_); rintro e w72 ⟨rfl, hb⟩; refine ⟨_, rfl, ?_⟩; replace HO310 := Aside0.mk (Kd.R_below (pr HO310) hb); replace HO314 := Aside0.mk (Kd.R_below (pr HO314) hb); replace HO318 := Aside0.mk (Kd.R_below (pr HO318) hb); replace HO322 := Aside0.mk (Kd.R_below (pr HO322) hb); replace HB := bs hb; (try clear hb)) | ((with_reducible refine gc 20 ?_); refine gl (some 160) Tryz.func20 #[.string t294] ?_; (with_reducible refine (impl_MirrorRow.calls t294 t331 t332 _ ?_ A20.out).mono ?_); exact Dr.mm HMM; rintro e w73 ⟨rfl, hb⟩; refine ⟨_, rfl, ?_⟩; replace HO310 := Aside0.mk (Kd.R_below (pr HO310) hb); replace HO314 := Aside0.mk (Kd.R_below (pr HO314) hb); replace HO318 := Aside0.mk (Kd.R_below (pr HO318) hb); replace HO322 := Aside0.mk (Kd.R_below (pr HO322) hb); replace HB := bs hb; (try clear hb)) | ((with_reducible refine gc 21 ?_); refine gl (some 165) Tryz.func21 #[.string t294] ?_; (with_reducible refine (spec_MirrorRow.calls k t294 t333 t334 _ A21.out).mono ?_); rintro e w' ⟨rfl, ⟨nd, rfl⟩⟩; refine ⟨_, rfl, ?_⟩) | ((with_reducible refine gc 22 ?_); refine gl (some 170) Tryz.func22 #[.string t294] ?_; (with_reducible refine (impl_TurnedRow.calls t294 t335 t336 _ ?_ A22.out).mono ?_); exact Dr.mm HMM; rintro e w74 ⟨rfl, hb⟩; refine ⟨_, rfl, ?_⟩; replace HO310 := Aside0.mk (Kd.R_below (pr HO310) hb); replace HO314 := Aside0.mk (Kd.R_below (pr HO314) hb); replace HO318 := Aside0.mk (Kd.R_below (pr HO318) hb); replace HO322 := Aside0.mk (Kd.R_below (pr HO322) hb); replace HB := bs hb; (try clear hb)) | ((with_reducible refine gc 23 ?_); refine gl (some 175) Tryz.func23 #[.string t294] ?_; (with_reducible refine (spec_TurnedRow.calls k t294 t337 t338 _ A23.out).mono ?_); rintro e w' ⟨rfl, ⟨nd, rfl⟩⟩; refine ⟨_, rfl, ?_⟩; obtain ⟨Ao75, co75, eo75⟩ := Kd.R_slice HO310.out; subst eo75; obtain ⟨Ao76, co76, eo76⟩ := Kd.R_slice HO314.out; subst eo76; refine halt ?_))
 replace H := ofl HRT H
 obtain ⟨c24, H⟩ := H
 have c24b0 : (t296 != t298) = false := by simpa using c24
 (try (have c24b1 : decide (t296 = t298) = true := by simpa using c24))
 (try (have c24b2 : (t296 == t298) = true := by simpa using c24))
 clear c24
 replace H := ofr HRT H
 obtain ⟨c25, H⟩ := H
 have c25b0 : (t295 == t297) = true := beq_iff_eq.mpr c25
 have c25b1 : (t295 != t297) = false := bne_eq_false_iff_eq.mpr c25
 clear c25
 replace H := ofl HRT H
 obtain ⟨c26, H⟩ := H
 have c26b0 : (t300 != t302) = false := by simpa using c26
 (try (have c26b1 : decide (t300 = t302) = true := by simpa using c26))
 (try (have c26b2 : (t300 == t302) = true := by simpa using c26))
 clear c26
 replace H := ofr HRT H
 obtain ⟨c27, H⟩ := H
 have c27b0 : (t299.toList == t301.toList) = true := beq_iff_eq.mpr c27
 have c27b1 : (t299.toList != t301.toList) = false := bne_eq_false_iff_eq.mpr c27
 clear c27
 replace H := ofl HRT H
 obtain ⟨c28, H⟩ := H
 have c28b0 : (t304 != t306) = false := by simpa using c28
 (try (have c28b1 : decide (t304 = t306) = true := by simpa using c28))
 (try (have c28b2 : (t304 == t306) = true := by simpa using c28))
 clear c28
 replace H := ofr HRT H
 obtain ⟨c29, H⟩ := H
 have c29b0 : (t303 == t305) = true := beq_iff_eq.mpr c29
 have c29b1 : (t303 != t305) = false := bne_eq_false_iff_eq.mpr c29
 clear c29
 replace H := ofl HRT H
 obtain ⟨c30, H⟩ := H
 have c30b0 : (t308 != t312) = false := by simpa using c30
 (try (have c30b1 : decide (t308 = t312) = true := by simpa using c30))
 (try (have c30b2 : (t308 == t312) = true := by simpa using c30))
 clear c30
 replace H := ob H
 obtain ⟨t339, A31, H⟩ := H
 (try dsimp only at H)
 replace H := ofr HRT H
 obtain ⟨c32, H⟩ := H
 subst c32
 refine Aside0.mk ?_
 go_wp2_with ((go_at_call 24; (with_reducible refine (laws_mSame.calls k _ _ t307 _ _ t311 true _ ?_ ?_ ?_ ?_ A31.out).mono ?_); repeat (first | exact (Kd.R_reads' HO310.out).2.2 | (with_reducible refine Kd.C_alloc ?_ _) | (with_reducible refine Kd.C_drewN ?_ _) | (with_reducible refine Kd.C_drew ?_)); exact (Kd.R_reads' HO310.out).2.1; repeat (first | exact (Kd.R_reads' HO314.out).2.2 | (with_reducible refine Kd.C_alloc ?_ _) | (with_reducible refine Kd.C_drewN ?_ _) | (with_reducible refine Kd.C_drew ?_)); exact (Kd.R_reads' HO314.out).2.1; rintro e w' ⟨rfl, ⟨nd, rfl⟩⟩; obtain ⟨Ao77, co77, eo77⟩ := Kd.R_slice HO318.out; subst eo77; obtain ⟨Ao78, co78, eo78⟩ := Kd.R_slice HO322.out; subst eo78; refine halt ?_))
 repeat (first|clear c24b0|clear c24b1|clear c24b2|clear c25b0|clear c25b1|clear c26b0|clear c26b1|clear c26b2|clear c27b0|clear c27b1|clear c28b0|clear c28b1|clear c28b2|clear c29b0|clear c29b1|clear c30b0|clear c30b1|clear c30b2)
 replace H := ofl HRT H
 obtain ⟨c33, H⟩ := H
 have c33b0 : (t316 != t320) = false := by simpa using c33
 (try (have c33b1 : decide (t316 = t320) = true := by simpa using c33))
 (try (have c33b2 : (t316 == t320) = true := by simpa using c33))
 clear c33
 replace H := ob H
 obtain ⟨t340, A34, H⟩ := H
 (try dsimp only at H)
 replace H := ofr HRT H
 obtain ⟨c35, H⟩ := H
 subst c35
 refine Aside0.mk ?_
 go_wp2_with ((go_at_call 24; (with_reducible refine (laws_mSame.calls k _ _ t315 _ _ t319 true _ ?_ ?_ ?_ ?_ A34.out).mono ?_); repeat (first | exact (Kd.R_reads' HO318.out).2.2 | (with_reducible refine Kd.C_alloc ?_ _) | (with_reducible refine Kd.C_drewN ?_ _) | (with_reducible refine Kd.C_drew ?_)); exact (Kd.R_reads' HO318.out).2.1; repeat (first | exact (Kd.R_reads' HO322.out).2.2 | (with_reducible refine Kd.C_alloc ?_ _) | (with_reducible refine Kd.C_drewN ?_ _) | (with_reducible refine Kd.C_drew ?_)); exact (Kd.R_reads' HO322.out).2.1; rintro e w' ⟨rfl, ⟨nd, rfl⟩⟩; refine halt ?_))
 repeat (first|clear c33b0|clear c33b1|clear c33b2)
 replace H := ofl HRT H
 obtain ⟨c36, H⟩ := H
 have c36b0 : (t324 != t326) = false := by simpa using c36
 (try (have c36b1 : decide (t324 = t326) = true := by simpa using c36))
 (try (have c36b2 : (t324 == t326) = true := by simpa using c36))
 clear c36
 replace H := ofr HRT H
 obtain ⟨c37, H⟩ := H
 have c37b0 : (t323.toList == t325.toList) = true := beq_iff_eq.mpr c37
 have c37b1 : (t323.toList != t325.toList) = false := bne_eq_false_iff_eq.mpr c37
 clear c37
 replace H := ofl HRT H
 obtain ⟨c38, H⟩ := H
 have c38b0 : (t328 != t330) = false := by simpa using c38
 (try (have c38b1 : decide (t328 = t330) = true := by simpa using c38))
 (try (have c38b2 : (t328 == t330) = true := by simpa using c38))
 clear c38
 replace H := ofl HRT H
 obtain ⟨c39, H⟩ := H
 have c39b0 : (t327 != t329) = false := by simpa using c39
 (try (have c39b1 : decide (t327 = t329) = true := by simpa using c39))
 (try (have c39b2 : (t327 == t329) = true := by simpa using c39))
 clear c39
 replace H := ofl HRT H
 obtain ⟨c40, H⟩ := H
 have c40b0 : (t332 != t334) = false := by simpa using c40
 (try (have c40b1 : decide (t332 = t334) = true := by simpa using c40))
 (try (have c40b2 : (t332 == t334) = true := by simpa using c40))
 clear c40
 replace H := ofr HRT H
 obtain ⟨c41, H⟩ := H
 have c41b0 : (t331.toList == t333.toList) = true := beq_iff_eq.mpr c41
 have c41b1 : (t331.toList != t333.toList) = false := bne_eq_false_iff_eq.mpr c41
 clear c41
 replace H := ofl HRT H
 obtain ⟨c42, H⟩ := H
 have c42b0 : (t336 != t338) = false := by simpa using c42
 (try (have c42b1 : decide (t336 = t338) = true := by simpa using c42))
 (try (have c42b2 : (t336 == t338) = true := by simpa using c42))
 clear c42
 replace H := ofr HRT H
 obtain ⟨c43, H⟩ := H
 have c43b0 : (t335.toList == t337.toList) = true := beq_iff_eq.mpr c43
 have c43b1 : (t335.toList != t337.toList) = false := bne_eq_false_iff_eq.mpr c43
 clear c43
 replace H := ob H
 obtain ⟨t341, A44, H⟩ := H
 (try dsimp only at H)
 refine Aside0.mk ?_
 go_wp2_with ((go_at_call 25; (with_reducible refine (impl_IsRow.calls t294 t341 _ A44.out).mono ?_); rintro e w79 ⟨rfl, hb⟩; replace HO310 := Aside0.mk (Kd.R_below (pr HO310) hb); replace HO314 := Aside0.mk (Kd.R_below (pr HO314) hb); replace HO318 := Aside0.mk (Kd.R_below (pr HO318) hb); replace HO322 := Aside0.mk (Kd.R_below (pr HO322) hb); replace HB := bs hb; (try clear hb); refine halt ?_))
 repeat (first|clear c36b0|clear c36b1|clear c36b2|clear c37b0|clear c37b1|clear c38b0|clear c38b1|clear c38b2|clear c39b0|clear c39b1|clear c39b2|clear c40b0|clear c40b1|clear c40b2|clear c41b0|clear c41b1|clear c42b0|clear c42b1|clear c42b2|clear c43b0|clear c43b1)
 replace H := ofl HRT H
 obtain ⟨c45, H⟩ := H
 have c45b0 : (t296 != t341) = false := by simpa using c45
 (try (have c45b1 : decide (t296 = t341) = true := by simpa using c45))
 (try (have c45b2 : (t296 == t341) = true := by simpa using c45))
 clear c45
 replace H := ob H
 obtain ⟨t342, A46, H⟩ := H
 (try dsimp only at H)
 replace H := ob H
 obtain ⟨t343, A47, H⟩ := H
 (try dsimp only at H)
 refine Aside0.mk ?_
 go_wp2_with (first | (go_at_call 25; (with_reducible refine (impl_IsRow.calls t294 t342 _ A46.out).mono ?_); rintro e w80 ⟨rfl, hb⟩; replace HO310 := Aside0.mk (Kd.R_below (pr HO310) hb); replace HO314 := Aside0.mk (Kd.R_below (pr HO314) hb); replace HO318 := Aside0.mk (Kd.R_below (pr HO318) hb); replace HO322 := Aside0.mk (Kd.R_below (pr HO322) hb); replace HB := bs hb; (try clear hb)) | (go_at_call 26; (with_reducible refine (spec_IsRow.calls k t294 t343 _ A47.out).mono ?_); rintro e w' ⟨rfl, ⟨nd, rfl⟩⟩; refine halt ?_))
 repeat (first|clear c45b0|clear c45b1|clear c45b2)
 replace H := ofl HRT H
 obtain ⟨c48, H⟩ := H
 have c48b0 : (t342 != t343) = false := by simpa using c48
 (try (have c48b1 : decide (t342 = t343) = true := by simpa using c48))
 (try (have c48b2 : (t342 == t343) = true := by simpa using c48))
 (try (have c48b3 : (t341 != t343) = false := by rw [Option.some.inj (A44.out.symm.trans A46.out)]; assumption))
 (try (have c48b4 : decide (t341 = t343) = true := by rw [Option.some.inj (A44.out.symm.trans A46.out)]; assumption))
 (try (have c48b5 : (t341 == t343) = true := by rw [Option.some.inj (A44.out.symm.trans A46.out)]; assumption))
 clear c48
 replace H := ofl HRT H
 obtain ⟨c49, H⟩ := H
 have c49b0 : (t300 != t296) = false := by simpa using c49
 (try (have c49b1 : decide (t300 = t296) = true := by simpa using c49))
 (try (have c49b2 : (t300 == t296) = true := by simpa using c49))
 clear c49
 replace H := ofl HRT H
 obtain ⟨c50, H⟩ := H
 have c50b0 : (t304 != t296) = false := by simpa using c50
 (try (have c50b1 : decide (t304 = t296) = true := by simpa using c50))
 (try (have c50b2 : (t304 == t296) = true := by simpa using c50))
 clear c50
 replace H := ofl HRT H
 obtain ⟨c51, H⟩ := H
 have c51b0 : (t308 != t296) = false := by simpa using c51
 (try (have c51b1 : decide (t308 = t296) = true := by simpa using c51))
 (try (have c51b2 : (t308 == t296) = true := by simpa using c51))
 clear c51
 replace H := ofl HRT H
 obtain ⟨c52, H⟩ := H
 have c52b0 : (t316 != t296) = false := by simpa using c52
 (try (have c52b1 : decide (t316 = t296) = true := by simpa using c52))
 (try (have c52b2 : (t316 == t296) = true := by simpa using c52))
 clear c52
 replace H := ofl HRT H
 obtain ⟨c53, H⟩ := H
 have c53b0 : (t324 != t296) = false := by simpa using c53
 (try (have c53b1 : decide (t324 = t296) = true := by simpa using c53))
 (try (have c53b2 : (t324 == t296) = true := by simpa using c53))
 clear c53
 replace H := ofl HRT H
 obtain ⟨c54, H⟩ := H
 have c54b0 : (t328 != t296) = false := by simpa using c54
 (try (have c54b1 : decide (t328 = t296) = true := by simpa using c54))
 (try (have c54b2 : (t328 == t296) = true := by simpa using c54))
 clear c54
 replace H := ofl HRT H
 obtain ⟨c55, H⟩ := H
 have c55b0 : (t332 != t296) = false := by simpa using c55
 (try (have c55b1 : decide (t332 = t296) = true := by simpa using c55))
 (try (have c55b2 : (t332 == t296) = true := by simpa using c55))
 clear c55
 replace H := ofl HRT H
 obtain ⟨c56, H⟩ := H
 have c56b0 : (t336 != t296) = false := by simpa using c56
 (try (have c56b1 : decide (t336 = t296) = true := by simpa using c56))
 (try (have c56b2 : (t336 == t296) = true := by simpa using c56))
 clear c56
 have HC57 := Aside0.mk H
 clear H
 refine Aside0.mk ?_
 go_upto_if 321 with (fail)
 (try simp only [Act.put, List.setIfInBounds_toArray, List.set_cons_zero, List.set_cons_succ])
 go_cut [262, 263, 266, 267, 268, 269, 271, 272, 273, 274, 276, 278, 279, 280, 281, 282, 283, 284, 285, 286, 287, 288, 289, 290, 291, 292, 293, 294, 295, 296, 297, 298, 299, 300, 301, 302, 303, 304, 305, 306, 307, 308, 309, 310, 311, 312, 313, 314, 315, 316, 317, 318, 319, 320, 321] from 9999 (fun _ _ _ _ _ _ _ _ _ _ _ _ _ _ _ _ _ _ _ _ _ _ _ _ _ _ _ _ _ _ _ _ _ _ _ _ _ _ _ _ _ _ _ _ _ _ _ _ _ _ _ _ _ _ _ wc => ∃ (kq : Nat), Aside0 (laws_FnRowsRest.j6 kq l1 = some r) ∧ Aside0 (kq ≤ k) ∧ Aside0 (Below w.heap.size w wc))
 case first =>
  rename_i J1_ K1_ hJ1_ hM1_
  exact laws_FnRowsRest.f1 HRT HMM A6 HO310 HO314 HO318 HO322 HB c49b0 c49b1 c49b2 c50b0 c50b1 c50b2 c51b0 c51b1 c51b2 c52b0 c52b1 c52b2 c53b0 c53b1 c53b2 c54b0 c54b1 c54b2 c55b0 c55b1 c55b2 c56b0 c56b1 c56b2 HC57 hJ1_ hM1_
 case rest =>
  clear HC57
  repeat (first|clear c1|clear p1|clear q1|clear hx1|clear c2|clear p2|clear c3|clear c6|clear p6|clear c8|clear c13|clear p13|clear q13|clear hx13|clear c14|clear p14|clear q14|clear hx14|clear c15|clear c16|clear p16|clear q16|clear hx16|clear c17|clear c18|clear c19|clear c20|clear c29|clear c30|clear c31|clear p64|clear c134|clear c134b0|clear c135|clear c136|clear c137|clear p138|clear q138|clear hx138|clear c139|clear p140|clear q140|clear hx140|clear c144|clear c148|clear c151|clear c152|clear c154|clear c158|clear c158b0|clear c158b1|clear c158b2|clear c159|clear c159b0|clear p160|clear q160|clear hx160|clear p161|clear q161|clear hx161|clear c162|clear c162b0|clear c162b1|clear c163|clear c163b0|clear p164|clear q164|clear hx164|clear c166|clear c166b0|clear c167|clear c167b0|clear p168|clear q168|clear hx168|clear c169|clear c169b0|clear c169b1|clear c180|clear c180b0|clear c180b1|clear c182|clear c182b0|clear c182b1|clear c184|clear c184b0|clear c185|clear c185b0|clear c185b1|clear c186|clear c186b0|clear c186b1|clear c187|clear c187b0|clear c187b1|clear c193|clear c193b0|clear c193b1)
  obtain ⟨kq, HA, HJ56, HB⟩ := hcut
  go_step
  exact laws_FnRowsRest.r1 HR1 HC1 HRT HMM HA HJ56 HB
end Go.Proofs.YtolalphffodkdaaGreatDoor.PFnRowsRest
