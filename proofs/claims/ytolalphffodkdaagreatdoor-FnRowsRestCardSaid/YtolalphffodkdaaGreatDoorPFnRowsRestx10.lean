import Derived.Test.YtolalphffodkdaaGreatDoorPFnRowsRestx0
import Derived.Test.YtolalphffodkdaaGreatDoorPFnRowsRestx1
import Derived.Test.YtolalphffodkdaaGreatDoorPFnRowsRestx2
import Derived.Test.YtolalphffodkdaaGreatDoorPFnRowsRestx3
import Derived.Test.YtolalphffodkdaaGreatDoorPFnRowsRestx4
import Derived.Test.YtolalphffodkdaaGreatDoorPFnRowsRestx5
import Derived.Test.YtolalphffodkdaaGreatDoorPFnRowsRestx6
import Derived.Test.YtolalphffodkdaaGreatDoorPFnRowsRestx7
import Derived.Test.YtolalphffodkdaaGreatDoorPFnRowsRestx8
import Derived.Test.YtolalphffodkdaaGreatDoorSz
-- Laid by xprint, a program of this session that runs over the kit's print.
namespace Go.Proofs.YtolalphffodkdaaGreatDoor.PFnRowsRest
open Go.RowKit Go.Proofs.YtolalphffodkdaaGreatDoorW.PrintWords Go.Proofs.YtolalphffodkdaaGreatDoorW.PrintLast Go.Proofs.YtolalphffodkdaaGreatDoorW.PrintMore Go.Proofs.YtolalphffodkdaaGreatDoor.Sq
attribute [local go_sem] max2_int min2_int max_two min_two max_three min_three max_four min_four   -- for this text's walks alone
set_option linter.unusedVariables false
set_option linter.unusedSimpArgs false

-- the words again, with a search that unfolds nothing first
section
variable {w W W0 W1 W2 : World} {g q : Nat} {o : Obj}
theorem bw (h : Below w.heap.size w W := by repeat (first | (with_reducible first | exact HB.out | apply below_alloc | apply pw_below_drewN | apply below_drew1 | refine below_set ?_ (Aside0.out (by first | (with_reducible assumption) | assumption))) | exact HB.out)) : Below w.heap.size w W := h
theorem bs (hb : Below W.heap.size W W2) (h : Below w.heap.size w W := by repeat (first | (with_reducible first | exact HB.out | apply below_alloc | apply pw_below_drewN | apply below_drew1 | refine below_set ?_ (Aside0.out (by first | (with_reducible assumption) | assumption))) | exact HB.out)) : Aside0 (Below w.heap.size w W2) := ⟨below_step h hb⟩
theorem gs (hg : g = W.heap.size) (h : Below w.heap.size w W := by repeat (first | (with_reducible first | exact HB.out | apply below_alloc | apply pw_below_drewN | apply below_drew1 | refine below_set ?_ (Aside0.out (by first | (with_reducible assumption) | assumption))) | exact HB.out)) : Aside0 (w.heap.size ≤ g) := ⟨by rw [hg]; exact below_size h⟩
theorem pr {α : Type} {d : Kd α} {e base : Nat} {ok : Nat → Prop} {v : Value} {xs : List α} (_h : Aside0 (Kd.R d e W0 base ok v xs)) (h : Kd.R d e W base ok v xs := by (with_reducible repeat (first | apply Kd.R_alloc | apply Kd.R_drewN | apply Kd.R_drew)); exact Aside0.out (by first | (with_reducible assumption) | assumption)) : Kd.R d e W base ok v xs := h
theorem cb {α : Type} {K : Kd α} {A : Option Addr} {n : Nat} {l : List α} (_h : Aside0 (Kd.C K w A n l)) (h : Kd.C K W A n l := by repeat (first | exact (Kd.C_below (Aside0.out (by first | (with_reducible assumption) | assumption)) (Aside0.out (by first | (with_reducible assumption) | assumption))) | (with_reducible refine Kd.C_alloc ?_ _) | (with_reducible refine Kd.C_drewN ?_ _) | (with_reducible refine Kd.C_drew ?_))) : Kd.C K W A n l := h
end
section
variable {P : Program} {md : Region.Mode} {ops : Array Oper} {Q : Exit → Act → World → Prop} {S : World → Prop} {ds : List Nat}
theorem pu {T : Bool × List (List Nat × List Nat)} (i : Nat) (N : Option Tmp) {oi : Oper} {v : Value} {fuel : Nat} {l : Array Bool} {a : Act} {w : World} (l' : Array Bool) {a' : Act} (h : wpAnyLast P md ops Q S ds fuel l' a' w) (hT : Aside0 (rtab md ops = T) := by first | (with_reducible assumption) | assumption) (hi : ops[i]? = some oi := by rfl) (hN : oi.dst = N := by rfl)
    (hc : anyT T l.toList l'.toList i = true := by kernel_rfl) (hQ : ∀ c a w, Q (.panic c) (a.put oi.dst v) w → Q (.panic c) a w := by exact fun _ _ _ h => h) (hq : Region.wanted oi (yielded ops a.tmps) = true ∧ ∀ w' : World, (execOp a.eval oi).run P w' = .ok (.value v) w' := by exact ⟨by rfl, by intro w'; go_simp; with_reducible rfl⟩)
    (ha : a.put N v = a' := by simp only [Act.put, List.setIfInBounds_toArray, List.set_cons_zero, List.set_cons_succ, i64_w, i32_w]; rfl) : wpAnyLast P md ops Q S ds (fuel + 1) l a w := by
  exact pure_ l' hi hN (any_of hT.out hc) hQ (Or.inl hq) ha h
end
/-! ### laws_FnRowsRest: its contract -/
def cd : List Nat → Code → Code
  | [], c => c
  | 0 :: p, .seq a _ => cd p a
  | 1 :: p, .seq _ b => cd p b
  | 0 :: p, .cond _ a _ => cd p a
  | 1 :: p, .cond _ _ b => cd p b
  | 0 :: p, .block _ a => cd p a
  | 0 :: p, .loop a => cd p a
  | 0 :: p, .scope a => cd p a
  | _, c => c
/-- The code at a place of a function's body. -/
def cdd (f : Func) (p : List Nat) : Code := cd p (f.body.getD .skip)

set_option maxHeartbeats 80000000 in
set_option maxRecDepth 100000 in
theorem laws_FnRowsRest.r3
 {k : Nat}
 {A0 : Option Addr}
 {c0 : Nat}
 {l0 : List Int}
 {A1 : Option Addr}
 {c1 : Nat}
 {l1 : List Int}
 {r : Bool}
 {w : World}
 (HRT : Aside0 (r = true))
 {t294 : ByteArray}
 {t295 t297 : Int}
 {t298 : Bool}
 {t299 : ByteArray}
 {t300 : Bool}
 {t301 : ByteArray}
 {t302 : Bool}
 {t303 : Int}
 {t304 : Bool}
 {t305 : Int}
 {t306 : Bool}
 {t307 : List Int}
 {t308 : Bool}
 {t311 : List Int}
 {t312 : Bool}
 {t315 : List Int}
 {t316 : Bool}
 {t319 : List Int}
 {t320 : Bool}
 {t323 : ByteArray}
 {t324 : Bool}
 {t325 : ByteArray}
 {t326 t327 t328 t329 t330 : Bool}
 {t331 : ByteArray}
 {t332 : Bool}
 {t333 : ByteArray}
 {t334 : Bool}
 {t335 : ByteArray}
 {t336 : Bool}
 {t337 : ByteArray}
 {t338 : Bool}
 {Ao75 : Option Addr}
 {co75 : Nat}
 {Ao76 : Option Addr}
 {co76 : Nat}
 {Ao77 : Option Addr}
 {co77 : Nat}
 {Ao78 : Option Addr}
 {co78 : Nat}
 {t341 t342 t343 : Bool}
 {J1_ K1_ : Act → World → Prop}
 (hM1_ : ∀ (a' : Act) (w' : World), Met J1_ a' w' → K1_ a' w')
 (hJ1_ : ∀ (a' : Act) (w' : World), (∃ u4 u42 u43 u44 u45 u46 u48 u49 u50 u51 u52 u53 u54 u55 u56 u57 u58 u59 u262 u263 u266 u267 u268 u269 u271 u272 u273 u274 u276 u278 u279 u280 u281 u282 u283 u284 u285 u286 u287 u288 u289 u290 u291 u292 u293 u294 u295 u296 u297 u298 u299 u300 u301 u302 u303 u304 u305 u306 u307 u308 u309 u310 u311 u312 u313 u314 u315 u316 u317 u318 u319 u320 u321 u322 u323 u324 u325 u326 u327 u328 u329 u330 u331 u332 u333 u334 u335 u336 u337 u338 u339 u340 u341 u342 u343 u344 u345 u346 u347 u348 u349 u350 u351 u352 u353 u354 u355 u356 u357 u358 u359 u360 u361 u362 u363 u364 u365 u366 u367 u368 u369 u370 u371 u372 u373 u374 u375 u376 u377 u378 u379 u380 u381 u382 u383 u384 u385 u386 u387 u388 u389 u390 u391 u392 u393 u394 u395 u396 u397 u398 u399 u400 u401 u402 u403 u404 u405 u406 u407 u408 u409 u410 u411 u412 u413 u414 u415 u416 u417 u418 u419 u420 u421 u422 u423 u424 u425 u426 u427 u428 u429 u430 u431 u432 u433 u434 u435 u436 u437 u438 u439 u440 u441 u442 u443 u444 u445 u446 u447 u448 u449 u450 u451 u452 u453 u454 u455 u456 u457 u458 u459 u460 u461 u462 u463 u464 u465 u466 u467 u468 u469 u470 u471 u472 u473 u474 u475 u476 u477 u478 u479 u480 u481 u482 u483 u484 u485 u486 u487 u488 u489 u490 u491 u492 u493 u494 u495 u496 u497 u498 u499 u500 u501 u502 u503 u504 u505 u506 u507 u508 u509 u510 u511 u512 u513 u514 u515 u516 u517 u518 u519 u520 u521 u522 u523 u524 u525 u526 u527 u528 u529 u530 u531 u532 u533 u534 u535 u536 u537 u538 u539 u540 u541 u542 u543 u544 u545 u546 u547 u548 u549 u550 u551 u552 u553 u554 u555 u556 u557 u558 u559, (∃ kq, Aside0 (j6 kq l1 = some r) ∧ Aside0 (kq ≤ k) ∧ Aside0 (Below (Array.size w.heap) w w')) ∧ a' = { tmps := #[Value.slice A0 (List.length l0) c0, Value.slice A1 (List.length l1) c1, undef, undef, u4, Value.string t294, Value.int IntKind.i64 t295, Value.bool true, Value.int IntKind.i64 t297, Value.bool t298, Value.string t299, Value.bool t300, Value.string t301, Value.bool t302, Value.int IntKind.i64 t303, Value.bool t304, Value.int IntKind.i64 t305, Value.bool t306, Value.slice Ao75 (List.length t307) co75, Value.bool t308, Value.slice Ao76 (List.length t311) co76, Value.bool t312, Value.slice Ao77 (List.length t315) co77, Value.bool t316, Value.slice Ao78 (List.length t319) co78, Value.bool t320, Value.string t323, Value.bool t324, Value.string t325, Value.bool t326, Value.bool t327, Value.bool t328, Value.bool t329, Value.bool t330, Value.string t331, Value.bool t332, Value.string t333, Value.bool t334, Value.string t335, Value.bool t336, Value.string t337, Value.bool t338, u42, u43, u44, u45, u46, undef, u48, u49, u50, u51, u52, u53, u54, u55, u56, u57, u58, u59, undef, undef, undef, undef, undef, undef, undef, undef, undef, undef, undef, undef, undef, undef, undef, undef, undef, undef, undef, undef, undef, undef, undef, Value.slice A0 (List.length l0) c0, Value.slice A1 (List.length l1) c1, Value.bool false, Value.slice A0 (List.length l0) c0, Value.string t294, Value.tuple #[Value.int IntKind.i64 t295, Value.bool true], Value.string t294, Value.tuple #[Value.int IntKind.i64 t295, Value.bool true], Value.int IntKind.i64 t295, Value.bool true, Value.tuple #[Value.int IntKind.i64 t297, Value.bool t298], Value.string t294, Value.tuple #[Value.int IntKind.i64 t297, Value.bool t298], Value.int IntKind.i64 t297, Value.bool t298, Value.tuple #[Value.string t299, Value.bool t300], Value.string t294, Value.tuple #[Value.string t299, Value.bool t300], Value.string t299, Value.bool t300, Value.tuple #[Value.string t301, Value.bool t302], Value.string t294, Value.tuple #[Value.string t301, Value.bool t302], Value.string t301, Value.bool t302, Value.tuple #[Value.int IntKind.i64 t303, Value.bool t304], Value.string t294, Value.tuple #[Value.int IntKind.i64 t303, Value.bool t304], Value.int IntKind.i64 t303, Value.bool t304, Value.tuple #[Value.int IntKind.i64 t305, Value.bool t306], Value.string t294, Value.tuple #[Value.int IntKind.i64 t305, Value.bool t306], Value.int IntKind.i64 t305, Value.bool t306, Value.tuple #[Value.slice Ao75 (List.length t307) co75, Value.bool t308], Value.string t294, Value.tuple #[Value.slice Ao75 (List.length t307) co75, Value.bool t308], Value.slice Ao75 (List.length t307) co75, Value.bool t308, Value.tuple #[Value.slice Ao76 (List.length t311) co76, Value.bool t312], Value.string t294, Value.tuple #[Value.slice Ao76 (List.length t311) co76, Value.bool t312], Value.slice Ao76 (List.length t311) co76, Value.bool t312, Value.tuple #[Value.slice Ao77 (List.length t315) co77, Value.bool t316], Value.string t294, Value.tuple #[Value.slice Ao77 (List.length t315) co77, Value.bool t316], Value.slice Ao77 (List.length t315) co77, Value.bool t316, Value.tuple #[Value.slice Ao78 (List.length t319) co78, Value.bool t320], Value.string t294, Value.tuple #[Value.slice Ao78 (List.length t319) co78, Value.bool t320], Value.slice Ao78 (List.length t319) co78, Value.bool t320, Value.tuple #[Value.string t323, Value.bool t324], Value.string t294, Value.tuple #[Value.string t323, Value.bool t324], Value.string t323, Value.bool t324, Value.tuple #[Value.string t325, Value.bool t326], Value.string t294, Value.tuple #[Value.string t325, Value.bool t326], Value.string t325, Value.bool t326, Value.tuple #[Value.bool t327, Value.bool t328], Value.string t294, Value.tuple #[Value.bool t327, Value.bool t328], Value.bool t327, Value.bool t328, Value.tuple #[Value.bool t329, Value.bool t330], Value.string t294, Value.tuple #[Value.bool t329, Value.bool t330], Value.bool t329, Value.bool t330, Value.tuple #[Value.string t331, Value.bool t332], Value.string t294, Value.tuple #[Value.string t331, Value.bool t332], Value.string t331, Value.bool t332, Value.tuple #[Value.string t333, Value.bool t334], Value.string t294, Value.tuple #[Value.string t333, Value.bool t334], Value.string t333, Value.bool t334, Value.tuple #[Value.string t335, Value.bool t336], Value.string t294, Value.tuple #[Value.string t335, Value.bool t336], Value.string t335, Value.bool t336, Value.tuple #[Value.string t337, Value.bool t338], Value.string t294, Value.tuple #[Value.string t337, Value.bool t338], Value.string t337, Value.bool t338, Value.bool true, Value.bool t298, Value.bool false, Value.bool false, Value.int IntKind.i64 t295, Value.int IntKind.i64 t297, Value.bool false, Value.bool false, Value.bool false, Value.bool t300, Value.bool t302, Value.bool false, Value.bool false, Value.bool false, Value.string t299, Value.string t301, Value.bool false, Value.bool false, Value.bool false, Value.bool t304, Value.bool t306, Value.bool false, Value.bool false, Value.bool false, Value.int IntKind.i64 t303, Value.int IntKind.i64 t305, Value.bool false, Value.bool false, Value.bool false, Value.bool t308, Value.bool t312, Value.bool false, Value.bool false, Value.bool false, Value.slice Ao75 (List.length t307) co75, Value.slice Ao76 (List.length t311) co76, Value.bool true, Value.bool false, Value.bool false, Value.bool false, Value.bool t316, Value.bool t320, Value.bool false, Value.bool false, Value.bool false, Value.slice Ao77 (List.length t315) co77, Value.slice Ao78 (List.length t319) co78, Value.bool true, Value.bool false, Value.bool false, Value.bool false, Value.bool t324, Value.bool t326, Value.bool false, Value.bool false, Value.bool false, Value.string t323, Value.string t325, Value.bool false, Value.bool false, Value.bool false, Value.bool t328, Value.bool t330, Value.bool false, Value.bool false, Value.bool false, Value.bool t327, Value.bool t329, Value.bool false, Value.bool false, Value.bool false, Value.bool t332, Value.bool t334, Value.bool false, Value.bool false, Value.bool false, Value.string t331, Value.string t333, Value.bool false, Value.bool false, Value.bool false, Value.bool t336, Value.bool t338, Value.bool false, u262, u263, Value.string t335, Value.string t337, u266, u267, u268, u269, Value.string t294, u271, u272, u273, u274, Value.string t294, u276, Value.string t294, u278, u279, u280, u281, u282, u283, u284, u285, u286, u287, u288, u289, u290, u291, u292, u293, u294, u295, u296, u297, u298, u299, u300, u301, u302, u303, u304, u305, u306, u307, u308, u309, u310, u311, u312, u313, u314, u315, u316, u317, u318, u319, u320, u321, u322, u323, u324, u325, u326, u327, u328, u329, u330, u331, u332, u333, u334, u335, u336, u337, u338, u339, u340, u341, u342, u343, u344, u345, u346, u347, u348, u349, u350, u351, u352, u353, u354, u355, u356, u357, u358, u359, u360, u361, u362, u363, u364, u365, u366, u367, u368, u369, u370, u371, u372, u373, u374, u375, u376, u377, u378, u379, u380, u381, u382, u383, u384, u385, u386, u387, u388, u389, u390, u391, u392, u393, u394, u395, u396, u397, u398, u399, u400, u401, u402, u403, u404, u405, u406, u407, u408, u409, u410, u411, u412, u413, u414, u415, u416, u417, u418, u419, u420, u421, u422, u423, u424, u425, u426, u427, u428, u429, u430, u431, u432, u433, u434, u435, u436, u437, u438, u439, u440, u441, u442, u443, u444, u445, u446, u447, u448, u449, u450, u451, u452, u453, u454, u455, u456, u457, u458, u459, u460, u461, u462, u463, u464, u465, u466, u467, u468, u469, u470, u471, u472, u473, u474, u475, u476, u477, u478, u479, u480, u481, u482, u483, u484, u485, u486, u487, u488, u489, u490, u491, u492, u493, u494, u495, u496, u497, u498, u499, u500, u501, u502, u503, u504, u505, u506, u507, u508, u509, u510, u511, u512, u513, u514, u515, u516, u517, u518, u519, u520, u521, u522, u523, u524, u525, u526, u527, u528, u529, u530, u531, u532, u533, u534, u535, u536, u537, u538, u539, u540, u541, u542, u543, u544, u545, u546, u547, u548, u549, u550, u551, u552, u553, u554, u555, u556, u557, u558, u559, undef, undef, undef, undef, undef, undef, undef, undef, undef, undef, undef, undef, undef, undef, undef, undef, undef, undef, undef, undef, undef, undef, undef, undef, undef, undef, undef, undef, undef, undef, undef, undef, undef, undef, undef, undef, undef, undef, undef, undef, undef, undef, undef, undef, undef, undef, undef, undef, undef, undef, undef, undef, undef, undef, undef, undef, undef, undef, undef, undef, undef, undef, undef, undef, undef, undef, undef, undef, undef, undef, undef, undef, undef, undef, undef, undef, undef, undef, undef, undef, undef, undef, undef, undef, undef, undef, undef, undef, undef, undef, undef, undef, undef, undef, undef, undef, undef, undef, undef, undef, undef, undef, undef, undef, undef, undef, undef, undef, undef, undef, undef, undef, undef, undef], defers := [] }) → J1_ a' w')
 {gb344 : Nat}
 {u44 : Value}
 (u324 : Value)
 {u326 u327 u328 u329 u331 u332 u333 u334 u335 : Value}
 {x42_1 x43_1 : Int}
 {k1 : Nat}
 (HK1 : Aside0 (k1 + 1 ≤ k))
 {gb345 : Nat}
 {u46 : Value}
 (u338 : Value)
 {x45_2 : ByteArray}
 {k2 : Nat}
 (HK2 : Aside0 (k2 + 1 ≤ k1))
 {u291 u292 u293 u294 u295 u296 u297 u298 u299 u300 u301 u302 u303 u304 u305 u306 u307 u308 u309 u310 u311 u312 u313 u314 u315 u316 u317 u318 u319 u320 u321 u325 u330 u339 u340 u341 u342 u343 u344 u345 u346 u347 u348 u349 u350 u351 u352 u353 u354 u355 u356 u357 u358 u359 u360 u361 u362 u363 u364 u365 u366 u367 u368 u369 u370 u371 u372 u373 u374 u375 u376 u377 u378 u379 u380 u381 u382 u383 u384 u385 u386 u387 u388 u389 u390 u391 u392 u393 u394 u395 u396 u397 u398 u399 u400 u401 u402 u403 u404 u405 u406 : Value}
 {kj99 : Nat}
 (HJ99 : Aside0 (kj99 + 1 ≤ k2))
 {u48 : Value}
 (u411 : Value)
 {u412 u413 u414 u415 u416 u417 u418 u419 u420 u421 u422 u423 u424 u425 u426 u427 u428 u429 u430 u431 u432 u433 u434 u435 u436 u437 u438 : Value}
 {x410_4 : Int}
 {k4 : Nat}
 (HK4 : Aside0 (k4 + 1 ≤ kj99))
 {gb350 : Nat}
 {u4 u49 : Value}
 (u441 : Value)
 {u443 u444 u445 u446 u447 u448 u449 u451 u452 u455 u456 u457 u462 u463 u464 u465 u466 u467 u471 u472 u473 u474 u475 u476 u477 u478 u479 u480 : Value}
 {k5 : Nat}
 (HK5 : Aside0 (k5 + 1 ≤ k4))
 {t353 : Int}
 {t354 : Bool}
 {t355 : ByteArray}
 {t356 : Bool}
 {t357 : Int}
 {t358 : Bool}
 {x3_ : Act → World → Prop}
 (x4_ : ∀ (a : Act) (w_1 : World), Code.wp Tryz.prog (cdd Tryz.f3 [1, 1, 1, 1, 1, 1, 1, 1, 1, 1, 1, 1, 1, 1, 1, 1, 1, 1, 1, 1, 1, 1, 0, 1, 0, 1, 1, 1, 1, 1, 1, 1, 1, 1, 1, 1]) (Exit.then K1_ (bodyPost Tryz.prog Tryz.f3 fun e w' => e = Ending.returned (Value.bool r) ∧ Below (Array.size w.heap) w w')) a w_1 → x3_ a w_1)
 {wc : World}
 {u442 u450 u453 u454 u458 u459 u460 u461 u468 u469 u470 u481 u482 u484 u485 u486 u487 u488 u489 u490 u491 u492 u493 u494 u495 u496 u497 u498 u499 u500 u501 u502 u503 u504 u505 u506 u507 u508 u509 u510 u511 u512 u513 u514 u515 u516 u517 u518 u519 u520 u521 u522 u523 u524 u525 u526 u527 u528 u529 u530 u531 u532 u533 u534 u535 : Value}
 {kq : Nat}
 {x536_174 : Bool}
 (HA : Aside0 (j5 kq l1 t294 x536_174 = some r))
 (HJ174 : Aside0 (kq ≤ k5))
 (HB : Aside0 (Below (Array.size w.heap) w wc)) :
 Code.wp Tryz.prog (cdd Tryz.f3 [1, 1, 1, 1, 1, 1, 1, 1, 1, 1, 1, 1, 1, 1, 1, 1, 1, 1, 1, 1, 1, 1, 0, 1, 0, 1, 1, 1, 1, 1, 1, 1, 1, 1, 1, 0, 1]) (Exit.then x3_ (Exit.then K1_ (bodyPost Tryz.prog Tryz.f3 fun e w' => e = Ending.returned (Value.bool r) ∧ Below (Array.size w.heap) w w'))) { tmps := #[Value.slice A0 (List.length l0) c0, Value.slice A1 (List.length l1) c1, undef, undef, u4, Value.string t294, Value.int IntKind.i64 t295, Value.bool true, Value.int IntKind.i64 t297, Value.bool t298, Value.string t299, Value.bool t300, Value.string t301, Value.bool t302, Value.int IntKind.i64 t303, Value.bool t304, Value.int IntKind.i64 t305, Value.bool t306, Value.slice Ao75 (List.length t307) co75, Value.bool t308, Value.slice Ao76 (List.length t311) co76, Value.bool t312, Value.slice Ao77 (List.length t315) co77, Value.bool t316, Value.slice Ao78 (List.length t319) co78, Value.bool t320, Value.string t323, Value.bool t324, Value.string t325, Value.bool t326, Value.bool t327, Value.bool t328, Value.bool t329, Value.bool t330, Value.string t331, Value.bool t332, Value.string t333, Value.bool t334, Value.string t335, Value.bool t336, Value.string t337, Value.bool t338, Value.int IntKind.i64 x42_1, Value.int IntKind.i64 x43_1, u44, Value.string x45_2, u46, undef, u48, u49, Value.int IntKind.i64 t353, Value.bool t354, Value.string t355, Value.bool t356, Value.int IntKind.i64 t357, Value.bool t358, undef, undef, undef, undef, undef, undef, undef, undef, undef, undef, undef, undef, undef, undef, undef, undef, undef, undef, undef, undef, undef, undef, undef, undef, undef, undef, undef, Value.slice A0 (List.length l0) c0, Value.slice A1 (List.length l1) c1, Value.bool false, Value.slice A0 (List.length l0) c0, Value.string t294, Value.tuple #[Value.int IntKind.i64 t295, Value.bool true], Value.string t294, Value.tuple #[Value.int IntKind.i64 t295, Value.bool true], Value.int IntKind.i64 t295, Value.bool true, Value.tuple #[Value.int IntKind.i64 t297, Value.bool t298], Value.string t294, Value.tuple #[Value.int IntKind.i64 t297, Value.bool t298], Value.int IntKind.i64 t297, Value.bool t298, Value.tuple #[Value.string t299, Value.bool t300], Value.string t294, Value.tuple #[Value.string t299, Value.bool t300], Value.string t299, Value.bool t300, Value.tuple #[Value.string t301, Value.bool t302], Value.string t294, Value.tuple #[Value.string t301, Value.bool t302], Value.string t301, Value.bool t302, Value.tuple #[Value.int IntKind.i64 t303, Value.bool t304], Value.string t294, Value.tuple #[Value.int IntKind.i64 t303, Value.bool t304], Value.int IntKind.i64 t303, Value.bool t304, Value.tuple #[Value.int IntKind.i64 t305, Value.bool t306], Value.string t294, Value.tuple #[Value.int IntKind.i64 t305, Value.bool t306], Value.int IntKind.i64 t305, Value.bool t306, Value.tuple #[Value.slice Ao75 (List.length t307) co75, Value.bool t308], Value.string t294, Value.tuple #[Value.slice Ao75 (List.length t307) co75, Value.bool t308], Value.slice Ao75 (List.length t307) co75, Value.bool t308, Value.tuple #[Value.slice Ao76 (List.length t311) co76, Value.bool t312], Value.string t294, Value.tuple #[Value.slice Ao76 (List.length t311) co76, Value.bool t312], Value.slice Ao76 (List.length t311) co76, Value.bool t312, Value.tuple #[Value.slice Ao77 (List.length t315) co77, Value.bool t316], Value.string t294, Value.tuple #[Value.slice Ao77 (List.length t315) co77, Value.bool t316], Value.slice Ao77 (List.length t315) co77, Value.bool t316, Value.tuple #[Value.slice Ao78 (List.length t319) co78, Value.bool t320], Value.string t294, Value.tuple #[Value.slice Ao78 (List.length t319) co78, Value.bool t320], Value.slice Ao78 (List.length t319) co78, Value.bool t320, Value.tuple #[Value.string t323, Value.bool t324], Value.string t294, Value.tuple #[Value.string t323, Value.bool t324], Value.string t323, Value.bool t324, Value.tuple #[Value.string t325, Value.bool t326], Value.string t294, Value.tuple #[Value.string t325, Value.bool t326], Value.string t325, Value.bool t326, Value.tuple #[Value.bool t327, Value.bool t328], Value.string t294, Value.tuple #[Value.bool t327, Value.bool t328], Value.bool t327, Value.bool t328, Value.tuple #[Value.bool t329, Value.bool t330], Value.string t294, Value.tuple #[Value.bool t329, Value.bool t330], Value.bool t329, Value.bool t330, Value.tuple #[Value.string t331, Value.bool t332], Value.string t294, Value.tuple #[Value.string t331, Value.bool t332], Value.string t331, Value.bool t332, Value.tuple #[Value.string t333, Value.bool t334], Value.string t294, Value.tuple #[Value.string t333, Value.bool t334], Value.string t333, Value.bool t334, Value.tuple #[Value.string t335, Value.bool t336], Value.string t294, Value.tuple #[Value.string t335, Value.bool t336], Value.string t335, Value.bool t336, Value.tuple #[Value.string t337, Value.bool t338], Value.string t294, Value.tuple #[Value.string t337, Value.bool t338], Value.string t337, Value.bool t338, Value.bool true, Value.bool t298, Value.bool false, Value.bool false, Value.int IntKind.i64 t295, Value.int IntKind.i64 t297, Value.bool false, Value.bool false, Value.bool false, Value.bool t300, Value.bool t302, Value.bool false, Value.bool false, Value.bool false, Value.string t299, Value.string t301, Value.bool false, Value.bool false, Value.bool false, Value.bool t304, Value.bool t306, Value.bool false, Value.bool false, Value.bool false, Value.int IntKind.i64 t303, Value.int IntKind.i64 t305, Value.bool false, Value.bool false, Value.bool false, Value.bool t308, Value.bool t312, Value.bool false, Value.bool false, Value.bool false, Value.slice Ao75 (List.length t307) co75, Value.slice Ao76 (List.length t311) co76, Value.bool true, Value.bool false, Value.bool false, Value.bool false, Value.bool t316, Value.bool t320, Value.bool false, Value.bool false, Value.bool false, Value.slice Ao77 (List.length t315) co77, Value.slice Ao78 (List.length t319) co78, Value.bool true, Value.bool false, Value.bool false, Value.bool false, Value.bool t324, Value.bool t326, Value.bool false, Value.bool false, Value.bool false, Value.string t323, Value.string t325, Value.bool false, Value.bool false, Value.bool false, Value.bool t328, Value.bool t330, Value.bool false, Value.bool false, Value.bool false, Value.bool t327, Value.bool t329, Value.bool false, Value.bool false, Value.bool false, Value.bool t332, Value.bool t334, Value.bool false, Value.bool false, Value.bool false, Value.string t331, Value.string t333, Value.bool false, Value.bool false, Value.bool false, Value.bool t336, Value.bool t338, Value.bool false, Value.bool false, Value.bool false, Value.string t335, Value.string t337, Value.bool false, Value.bool false, Value.bool false, Value.bool true, Value.string t294, Value.bool t341, Value.bool false, Value.bool false, Value.bool false, Value.string t294, Value.bool t342, Value.string t294, Value.bool t343, Value.bool false, Value.bool false, Value.bool false, Value.bool t300, Value.bool true, Value.bool false, Value.bool false, Value.bool false, Value.bool t304, Value.bool true, Value.bool false, Value.bool false, u291, u292, u293, u294, u295, u296, u297, u298, u299, u300, u301, u302, u303, u304, u305, u306, u307, u308, u309, u310, u311, u312, u313, u314, u315, u316, u317, u318, u319, u320, u321, Value.string t294, Value.pointer (some { block := gb344, off := 0 }), Value.tuple #[Value.bool false], u325, u326, u327, u328, u329, u330, u331, u332, u333, u334, u335, Value.string t294, Value.pointer (some { block := gb345, off := 0 }), Value.tuple #[Value.bool false], u339, u340, u341, u342, u343, u344, u345, u346, u347, u348, u349, u350, u351, u352, u353, u354, u355, u356, u357, u358, u359, u360, u361, u362, u363, u364, u365, u366, u367, u368, u369, u370, u371, u372, u373, u374, u375, u376, u377, u378, u379, u380, u381, u382, u383, u384, u385, u386, u387, u388, u389, u390, u391, u392, u393, u394, u395, u396, u397, u398, u399, u400, u401, u402, u403, u404, u405, u406, Value.bool false, Value.slice Ao77 (List.length t315) co77, Value.int IntKind.i64 ↑(List.length t315), Value.int IntKind.i64 x410_4, Value.bool false, u412, u413, u414, u415, u416, u417, u418, u419, u420, u421, u422, u423, u424, u425, u426, u427, u428, u429, u430, u431, u432, u433, u434, u435, u436, u437, u438, Value.string t294, Value.pointer (some { block := gb350, off := 0 }), Value.tuple #[Value.bool false], u442, u443, u444, u445, u446, u447, u448, u449, u450, u451, u452, u453, u454, u455, u456, u457, u458, u459, u460, u461, u462, u463, u464, u465, u466, u467, u468, u469, u470, u471, u472, u473, u474, u475, u476, u477, u478, u479, u480, u481, u482, Value.tuple #[Value.int IntKind.i64 t353, Value.bool t354], u484, u485, u486, u487, u488, u489, u490, u491, u492, u493, u494, u495, u496, u497, u498, u499, u500, u501, u502, u503, u504, u505, u506, u507, u508, u509, u510, u511, u512, u513, u514, u515, u516, u517, u518, u519, u520, u521, u522, u523, u524, u525, u526, u527, u528, u529, u530, u531, u532, u533, u534, u535, Value.bool x536_174, undef, undef, undef, undef, undef, undef, undef, undef, undef, undef, undef, undef, undef, undef, undef, undef, undef, undef, undef, undef, undef, undef, undef, undef, undef, undef, undef, undef, undef, undef, undef, undef, undef, undef, undef, undef, undef, undef, undef, undef, undef, undef, undef, undef, undef, undef, undef, undef, undef, undef, undef, undef, undef, undef, undef, undef, undef, undef, undef, undef, undef, undef, undef, undef, undef, undef, undef, undef, undef, undef, undef, undef, undef, undef, undef, undef, undef, undef, undef, undef, undef, undef, undef, undef, undef, undef, undef, undef, undef, undef, undef, undef, undef, undef, undef, undef, undef, undef, undef, undef, undef, undef, undef, undef, undef, undef, undef, undef, undef, undef, undef, undef, undef, undef, undef, undef, undef, undef, undef, undef, undef, undef, undef, undef, undef, undef, undef, undef, undef, undef, undef, undef, undef, undef, undef, undef, undef], defers := [] } wc := by
 conv at x4_ in cdd _ _ => whnf
 conv in cdd _ _ => whnf
 try dsimp only
 try dsimp only at hJ1_
 cases kq with
 | zero => exact absurd HA.out (by simp [laws_FnRowsRest.j5])
 | succ kj174 =>
  have H := HA.out
  clear HA
  simp only [laws_FnRowsRest.j5] at H
  by_cases c188 : x536_174 = true
  ·subst c188
   rw [if_pos rfl] at H
   exact absurd (Option.some.inj H) (by rw [HRT.out]; decide)
  replace c188 := Bool.eq_false_iff.mpr c188
  subst c188
  rw [if_neg (show ¬ (false = true) by decide)] at H
  replace H := ob H
  obtain ⟨⟨t359, t360⟩, A189, H⟩ := H
  (try dsimp only at H)
  replace H := ob H
  obtain ⟨⟨t361, t362⟩, A190, H⟩ := H
  (try dsimp only at H)
  replace H := ofr HRT H
  obtain ⟨c191, H⟩ := H
  subst c191
  replace H := ofr HRT H
  obtain ⟨c192, H⟩ := H
  subst c192
  replace H := ofr HRT H
  obtain ⟨c193, H⟩ := H
  have c193b0 : (t361.toList == t294.toList) = true := beq_iff_eq.mpr c193
  have c193b1 : (t361.toList != t294.toList) = false := bne_eq_false_iff_eq.mpr c193
  clear c193
  have H' := Aside0.mk H
  clear H
  go_wp2_with (first | ((with_reducible refine gc 30 ?_); refine gl (some 539) Tryz.func30 #[.string t294] ?_; (with_reducible refine (impl_NumberOfRow.calls kj174 t294 t359 true _ A189.out).mono ?_); rintro e w194 ⟨rfl, hb⟩; refine ⟨_, rfl, ?_⟩; replace HB := bs hb; (try clear hb)) | ((with_reducible refine gc 31 ?_); refine gl (some 546) Tryz.func31 #[.int .i64 (t294.size : Int), .int .i64 t359] ?_; (with_reducible refine (impl_RowOfNumber.calls kj174 (t294.size : Int) t359 t361 true _ A190.out).mono ?_); rintro e w195 ⟨rfl, hb⟩; refine ⟨_, rfl, ?_⟩; replace HB := bs hb; (try clear hb)))
  go_meet
  case rel => exact ⟨_, H', ⟨by have := HK1.out; have := HK2.out; have := HJ99.out; have := HK4.out; have := HK5.out; have := HJ174.out; first | omega | exact Nat.le_refl _⟩, ⟨bw⟩⟩

set_option maxHeartbeats 80000000 in
set_option maxRecDepth 100000 in
theorem laws_FnRowsRest.r2
 {k : Nat}
 {A0 : Option Addr}
 {c0 : Nat}
 {l0 : List Int}
 {A1 : Option Addr}
 {c1 : Nat}
 {l1 : List Int}
 {r : Bool}
 {w : World}
 (HRT : Aside0 (r = true))
 (HMM : Aside0 (Dr.Tab w))
 {t294 : ByteArray}
 {t295 t297 : Int}
 {t298 : Bool}
 {t299 : ByteArray}
 {t300 : Bool}
 {t301 : ByteArray}
 {t302 : Bool}
 {t303 : Int}
 {t304 : Bool}
 {t305 : Int}
 {t306 : Bool}
 {t307 : List Int}
 {t308 : Bool}
 {t311 : List Int}
 {t312 : Bool}
 {t315 : List Int}
 {t316 : Bool}
 {t319 : List Int}
 {t320 : Bool}
 {t323 : ByteArray}
 {t324 : Bool}
 {t325 : ByteArray}
 {t326 t327 t328 t329 t330 : Bool}
 {t331 : ByteArray}
 {t332 : Bool}
 {t333 : ByteArray}
 {t334 : Bool}
 {t335 : ByteArray}
 {t336 : Bool}
 {t337 : ByteArray}
 {t338 : Bool}
 {Ao75 : Option Addr}
 {co75 : Nat}
 {Ao76 : Option Addr}
 {co76 : Nat}
 {Ao77 : Option Addr}
 {co77 : Nat}
 {Ao78 : Option Addr}
 {co78 : Nat}
 {t341 t342 t343 : Bool}
 {J1_ K1_ : Act → World → Prop}
 (hM1_ : ∀ (a' : Act) (w' : World), Met J1_ a' w' → K1_ a' w')
 (hJ1_ : ∀ (a' : Act) (w' : World), (∃ u4 u42 u43 u44 u45 u46 u48 u49 u50 u51 u52 u53 u54 u55 u56 u57 u58 u59 u262 u263 u266 u267 u268 u269 u271 u272 u273 u274 u276 u278 u279 u280 u281 u282 u283 u284 u285 u286 u287 u288 u289 u290 u291 u292 u293 u294 u295 u296 u297 u298 u299 u300 u301 u302 u303 u304 u305 u306 u307 u308 u309 u310 u311 u312 u313 u314 u315 u316 u317 u318 u319 u320 u321 u322 u323 u324 u325 u326 u327 u328 u329 u330 u331 u332 u333 u334 u335 u336 u337 u338 u339 u340 u341 u342 u343 u344 u345 u346 u347 u348 u349 u350 u351 u352 u353 u354 u355 u356 u357 u358 u359 u360 u361 u362 u363 u364 u365 u366 u367 u368 u369 u370 u371 u372 u373 u374 u375 u376 u377 u378 u379 u380 u381 u382 u383 u384 u385 u386 u387 u388 u389 u390 u391 u392 u393 u394 u395 u396 u397 u398 u399 u400 u401 u402 u403 u404 u405 u406 u407 u408 u409 u410 u411 u412 u413 u414 u415 u416 u417 u418 u419 u420 u421 u422 u423 u424 u425 u426 u427 u428 u429 u430 u431 u432 u433 u434 u435 u436 u437 u438 u439 u440 u441 u442 u443 u444 u445 u446 u447 u448 u449 u450 u451 u452 u453 u454 u455 u456 u457 u458 u459 u460 u461 u462 u463 u464 u465 u466 u467 u468 u469 u470 u471 u472 u473 u474 u475 u476 u477 u478 u479 u480 u481 u482 u483 u484 u485 u486 u487 u488 u489 u490 u491 u492 u493 u494 u495 u496 u497 u498 u499 u500 u501 u502 u503 u504 u505 u506 u507 u508 u509 u510 u511 u512 u513 u514 u515 u516 u517 u518 u519 u520 u521 u522 u523 u524 u525 u526 u527 u528 u529 u530 u531 u532 u533 u534 u535 u536 u537 u538 u539 u540 u541 u542 u543 u544 u545 u546 u547 u548 u549 u550 u551 u552 u553 u554 u555 u556 u557 u558 u559, (∃ kq, Aside0 (j6 kq l1 = some r) ∧ Aside0 (kq ≤ k) ∧ Aside0 (Below (Array.size w.heap) w w')) ∧ a' = { tmps := #[Value.slice A0 (List.length l0) c0, Value.slice A1 (List.length l1) c1, undef, undef, u4, Value.string t294, Value.int IntKind.i64 t295, Value.bool true, Value.int IntKind.i64 t297, Value.bool t298, Value.string t299, Value.bool t300, Value.string t301, Value.bool t302, Value.int IntKind.i64 t303, Value.bool t304, Value.int IntKind.i64 t305, Value.bool t306, Value.slice Ao75 (List.length t307) co75, Value.bool t308, Value.slice Ao76 (List.length t311) co76, Value.bool t312, Value.slice Ao77 (List.length t315) co77, Value.bool t316, Value.slice Ao78 (List.length t319) co78, Value.bool t320, Value.string t323, Value.bool t324, Value.string t325, Value.bool t326, Value.bool t327, Value.bool t328, Value.bool t329, Value.bool t330, Value.string t331, Value.bool t332, Value.string t333, Value.bool t334, Value.string t335, Value.bool t336, Value.string t337, Value.bool t338, u42, u43, u44, u45, u46, undef, u48, u49, u50, u51, u52, u53, u54, u55, u56, u57, u58, u59, undef, undef, undef, undef, undef, undef, undef, undef, undef, undef, undef, undef, undef, undef, undef, undef, undef, undef, undef, undef, undef, undef, undef, Value.slice A0 (List.length l0) c0, Value.slice A1 (List.length l1) c1, Value.bool false, Value.slice A0 (List.length l0) c0, Value.string t294, Value.tuple #[Value.int IntKind.i64 t295, Value.bool true], Value.string t294, Value.tuple #[Value.int IntKind.i64 t295, Value.bool true], Value.int IntKind.i64 t295, Value.bool true, Value.tuple #[Value.int IntKind.i64 t297, Value.bool t298], Value.string t294, Value.tuple #[Value.int IntKind.i64 t297, Value.bool t298], Value.int IntKind.i64 t297, Value.bool t298, Value.tuple #[Value.string t299, Value.bool t300], Value.string t294, Value.tuple #[Value.string t299, Value.bool t300], Value.string t299, Value.bool t300, Value.tuple #[Value.string t301, Value.bool t302], Value.string t294, Value.tuple #[Value.string t301, Value.bool t302], Value.string t301, Value.bool t302, Value.tuple #[Value.int IntKind.i64 t303, Value.bool t304], Value.string t294, Value.tuple #[Value.int IntKind.i64 t303, Value.bool t304], Value.int IntKind.i64 t303, Value.bool t304, Value.tuple #[Value.int IntKind.i64 t305, Value.bool t306], Value.string t294, Value.tuple #[Value.int IntKind.i64 t305, Value.bool t306], Value.int IntKind.i64 t305, Value.bool t306, Value.tuple #[Value.slice Ao75 (List.length t307) co75, Value.bool t308], Value.string t294, Value.tuple #[Value.slice Ao75 (List.length t307) co75, Value.bool t308], Value.slice Ao75 (List.length t307) co75, Value.bool t308, Value.tuple #[Value.slice Ao76 (List.length t311) co76, Value.bool t312], Value.string t294, Value.tuple #[Value.slice Ao76 (List.length t311) co76, Value.bool t312], Value.slice Ao76 (List.length t311) co76, Value.bool t312, Value.tuple #[Value.slice Ao77 (List.length t315) co77, Value.bool t316], Value.string t294, Value.tuple #[Value.slice Ao77 (List.length t315) co77, Value.bool t316], Value.slice Ao77 (List.length t315) co77, Value.bool t316, Value.tuple #[Value.slice Ao78 (List.length t319) co78, Value.bool t320], Value.string t294, Value.tuple #[Value.slice Ao78 (List.length t319) co78, Value.bool t320], Value.slice Ao78 (List.length t319) co78, Value.bool t320, Value.tuple #[Value.string t323, Value.bool t324], Value.string t294, Value.tuple #[Value.string t323, Value.bool t324], Value.string t323, Value.bool t324, Value.tuple #[Value.string t325, Value.bool t326], Value.string t294, Value.tuple #[Value.string t325, Value.bool t326], Value.string t325, Value.bool t326, Value.tuple #[Value.bool t327, Value.bool t328], Value.string t294, Value.tuple #[Value.bool t327, Value.bool t328], Value.bool t327, Value.bool t328, Value.tuple #[Value.bool t329, Value.bool t330], Value.string t294, Value.tuple #[Value.bool t329, Value.bool t330], Value.bool t329, Value.bool t330, Value.tuple #[Value.string t331, Value.bool t332], Value.string t294, Value.tuple #[Value.string t331, Value.bool t332], Value.string t331, Value.bool t332, Value.tuple #[Value.string t333, Value.bool t334], Value.string t294, Value.tuple #[Value.string t333, Value.bool t334], Value.string t333, Value.bool t334, Value.tuple #[Value.string t335, Value.bool t336], Value.string t294, Value.tuple #[Value.string t335, Value.bool t336], Value.string t335, Value.bool t336, Value.tuple #[Value.string t337, Value.bool t338], Value.string t294, Value.tuple #[Value.string t337, Value.bool t338], Value.string t337, Value.bool t338, Value.bool true, Value.bool t298, Value.bool false, Value.bool false, Value.int IntKind.i64 t295, Value.int IntKind.i64 t297, Value.bool false, Value.bool false, Value.bool false, Value.bool t300, Value.bool t302, Value.bool false, Value.bool false, Value.bool false, Value.string t299, Value.string t301, Value.bool false, Value.bool false, Value.bool false, Value.bool t304, Value.bool t306, Value.bool false, Value.bool false, Value.bool false, Value.int IntKind.i64 t303, Value.int IntKind.i64 t305, Value.bool false, Value.bool false, Value.bool false, Value.bool t308, Value.bool t312, Value.bool false, Value.bool false, Value.bool false, Value.slice Ao75 (List.length t307) co75, Value.slice Ao76 (List.length t311) co76, Value.bool true, Value.bool false, Value.bool false, Value.bool false, Value.bool t316, Value.bool t320, Value.bool false, Value.bool false, Value.bool false, Value.slice Ao77 (List.length t315) co77, Value.slice Ao78 (List.length t319) co78, Value.bool true, Value.bool false, Value.bool false, Value.bool false, Value.bool t324, Value.bool t326, Value.bool false, Value.bool false, Value.bool false, Value.string t323, Value.string t325, Value.bool false, Value.bool false, Value.bool false, Value.bool t328, Value.bool t330, Value.bool false, Value.bool false, Value.bool false, Value.bool t327, Value.bool t329, Value.bool false, Value.bool false, Value.bool false, Value.bool t332, Value.bool t334, Value.bool false, Value.bool false, Value.bool false, Value.string t331, Value.string t333, Value.bool false, Value.bool false, Value.bool false, Value.bool t336, Value.bool t338, Value.bool false, u262, u263, Value.string t335, Value.string t337, u266, u267, u268, u269, Value.string t294, u271, u272, u273, u274, Value.string t294, u276, Value.string t294, u278, u279, u280, u281, u282, u283, u284, u285, u286, u287, u288, u289, u290, u291, u292, u293, u294, u295, u296, u297, u298, u299, u300, u301, u302, u303, u304, u305, u306, u307, u308, u309, u310, u311, u312, u313, u314, u315, u316, u317, u318, u319, u320, u321, u322, u323, u324, u325, u326, u327, u328, u329, u330, u331, u332, u333, u334, u335, u336, u337, u338, u339, u340, u341, u342, u343, u344, u345, u346, u347, u348, u349, u350, u351, u352, u353, u354, u355, u356, u357, u358, u359, u360, u361, u362, u363, u364, u365, u366, u367, u368, u369, u370, u371, u372, u373, u374, u375, u376, u377, u378, u379, u380, u381, u382, u383, u384, u385, u386, u387, u388, u389, u390, u391, u392, u393, u394, u395, u396, u397, u398, u399, u400, u401, u402, u403, u404, u405, u406, u407, u408, u409, u410, u411, u412, u413, u414, u415, u416, u417, u418, u419, u420, u421, u422, u423, u424, u425, u426, u427, u428, u429, u430, u431, u432, u433, u434, u435, u436, u437, u438, u439, u440, u441, u442, u443, u444, u445, u446, u447, u448, u449, u450, u451, u452, u453, u454, u455, u456, u457, u458, u459, u460, u461, u462, u463, u464, u465, u466, u467, u468, u469, u470, u471, u472, u473, u474, u475, u476, u477, u478, u479, u480, u481, u482, u483, u484, u485, u486, u487, u488, u489, u490, u491, u492, u493, u494, u495, u496, u497, u498, u499, u500, u501, u502, u503, u504, u505, u506, u507, u508, u509, u510, u511, u512, u513, u514, u515, u516, u517, u518, u519, u520, u521, u522, u523, u524, u525, u526, u527, u528, u529, u530, u531, u532, u533, u534, u535, u536, u537, u538, u539, u540, u541, u542, u543, u544, u545, u546, u547, u548, u549, u550, u551, u552, u553, u554, u555, u556, u557, u558, u559, undef, undef, undef, undef, undef, undef, undef, undef, undef, undef, undef, undef, undef, undef, undef, undef, undef, undef, undef, undef, undef, undef, undef, undef, undef, undef, undef, undef, undef, undef, undef, undef, undef, undef, undef, undef, undef, undef, undef, undef, undef, undef, undef, undef, undef, undef, undef, undef, undef, undef, undef, undef, undef, undef, undef, undef, undef, undef, undef, undef, undef, undef, undef, undef, undef, undef, undef, undef, undef, undef, undef, undef, undef, undef, undef, undef, undef, undef, undef, undef, undef, undef, undef, undef, undef, undef, undef, undef, undef, undef, undef, undef, undef, undef, undef, undef, undef, undef, undef, undef, undef, undef, undef, undef, undef, undef, undef, undef, undef, undef, undef, undef, undef, undef], defers := [] }) → J1_ a' w')
 {gb344 : Nat}
 {w82 : World}
 (HO310 : Aside0 (Kd.R (Kd.int IntKind.i64) 3 w82 (Array.size w.heap) (fun k => ((True ∧ some k ≠ Value.ownBlock (Value.slice Ao76 (List.length t311) co76)) ∧ some k ≠ Value.ownBlock (Value.slice Ao77 (List.length t315) co77)) ∧ some k ≠ Value.ownBlock (Value.slice Ao78 (List.length t319) co78)) (Value.slice Ao75 (List.length t307) co75) t307))
 (HO314 : Aside0 (Kd.R (Kd.int IntKind.i64) 3 w82 (Array.size w.heap) (fun k => ((True ∧ some k ≠ Value.ownBlock (Value.slice Ao75 (List.length t307) co75)) ∧ some k ≠ Value.ownBlock (Value.slice Ao77 (List.length t315) co77)) ∧ some k ≠ Value.ownBlock (Value.slice Ao78 (List.length t319) co78)) (Value.slice Ao76 (List.length t311) co76) t311))
 (HO318 : Aside0 (Kd.R (Kd.int IntKind.i64) 3 w82 (Array.size w.heap) (fun k => ((True ∧ some k ≠ Value.ownBlock (Value.slice Ao75 (List.length t307) co75)) ∧ some k ≠ Value.ownBlock (Value.slice Ao76 (List.length t311) co76)) ∧ some k ≠ Value.ownBlock (Value.slice Ao78 (List.length t319) co78)) (Value.slice Ao77 (List.length t315) co77) t315))
 (HO322 : Aside0 (Kd.R (Kd.int IntKind.i64) 3 w82 (Array.size w.heap) (fun k => ((True ∧ some k ≠ Value.ownBlock (Value.slice Ao75 (List.length t307) co75)) ∧ some k ≠ Value.ownBlock (Value.slice Ao76 (List.length t311) co76)) ∧ some k ≠ Value.ownBlock (Value.slice Ao77 (List.length t315) co77)) (Value.slice Ao78 (List.length t319) co78) t319))
 {u44 : Value}
 (u324 : Value)
 {u326 u327 u328 u329 u331 u332 u333 u334 u335 : Value}
 {x42_1 x43_1 : Int}
 {k1 : Nat}
 (HK1 : Aside0 (k1 + 1 ≤ k))
 {gb345 : Nat}
 {wr : World}
 {u46 : Value}
 (u338 : Value)
 {x45_2 : ByteArray}
 (HO_18 : Aside0 (Kd.R (Kd.int IntKind.i64) 3 wr (Array.size w.heap) (fun k_ => some k_ ≠ Value.ownBlock (Value.slice Ao77 (List.length t315) co77)) (Value.slice Ao75 (List.length t307) co75) t307))
 {k2 : Nat}
 (HK2 : Aside0 (k2 + 1 ≤ k1))
 {x2_ : Act → World → Prop}
 (x3_ : ∀ (a : Act) (w_1 : World), Code.wp Tryz.prog (cdd Tryz.f3 [1, 1, 1, 1, 1, 1, 1, 1, 1, 1, 1, 1, 1, 1, 1, 1, 1, 1, 1, 1, 1, 1, 0, 1, 0, 1, 1, 1, 1, 1]) (Exit.then K1_ (bodyPost Tryz.prog Tryz.f3 fun e w' => e = Ending.returned (Value.bool r) ∧ Below (Array.size w.heap) w w')) a w_1 → x2_ a w_1)
 {wc : World}
 {u291 u292 u293 u294 u295 u296 u297 u298 u299 u300 u301 u302 u303 u304 u305 u306 u307 u308 u309 u310 u311 u312 u313 u314 u315 u316 u317 u318 u319 u320 u321 u325 u330 u339 u340 u341 u342 u343 u344 u345 u346 u347 u348 u349 u350 u351 u352 u353 u354 u355 u356 u357 u358 u359 u360 u361 u362 u363 u364 u365 u366 u367 u368 u369 u370 u371 u372 u373 u374 u375 u376 u377 u378 u379 u380 u381 u382 u383 u384 u385 u386 u387 u388 u389 u390 u391 u392 u393 u394 u395 u396 u397 u398 u399 u400 u401 u402 u403 u404 u405 u406 : Value}
 {kq : Nat}
 {x407_99 : Bool}
 (HA : Aside0 (j2 kq l1 t294 t295 t315 t323 t331 t335 x407_99 = some r))
 (HJ99 : Aside0 (kq ≤ k2))
 (HO_22 : Aside0 (Kd.R (Kd.int IntKind.i64) 3 wc (Array.size w.heap) (fun x => True) (Value.slice Ao77 (List.length t315) co77) t315))
 (HB : Aside0 (Below (Array.size w.heap) w wc)) :
 Code.wp Tryz.prog (cdd Tryz.f3 [1, 1, 1, 1, 1, 1, 1, 1, 1, 1, 1, 1, 1, 1, 1, 1, 1, 1, 1, 1, 1, 1, 0, 1, 0, 1, 1, 1, 1, 0, 1]) (Exit.then x2_ (Exit.then K1_ (bodyPost Tryz.prog Tryz.f3 fun e w' => e = Ending.returned (Value.bool r) ∧ Below (Array.size w.heap) w w'))) { tmps := #[Value.slice A0 (List.length l0) c0, Value.slice A1 (List.length l1) c1, undef, undef, Value.bool false, Value.string t294, Value.int IntKind.i64 t295, Value.bool true, Value.int IntKind.i64 t297, Value.bool t298, Value.string t299, Value.bool t300, Value.string t301, Value.bool t302, Value.int IntKind.i64 t303, Value.bool t304, Value.int IntKind.i64 t305, Value.bool t306, Value.slice Ao75 (List.length t307) co75, Value.bool t308, Value.slice Ao76 (List.length t311) co76, Value.bool t312, Value.slice Ao77 (List.length t315) co77, Value.bool t316, Value.slice Ao78 (List.length t319) co78, Value.bool t320, Value.string t323, Value.bool t324, Value.string t325, Value.bool t326, Value.bool t327, Value.bool t328, Value.bool t329, Value.bool t330, Value.string t331, Value.bool t332, Value.string t333, Value.bool t334, Value.string t335, Value.bool t336, Value.string t337, Value.bool t338, Value.int IntKind.i64 x42_1, Value.int IntKind.i64 x43_1, u44, Value.string x45_2, u46, undef, undef, undef, undef, undef, undef, undef, undef, undef, undef, undef, undef, undef, undef, undef, undef, undef, undef, undef, undef, undef, undef, undef, undef, undef, undef, undef, undef, undef, undef, undef, undef, undef, undef, undef, undef, Value.slice A0 (List.length l0) c0, Value.slice A1 (List.length l1) c1, Value.bool false, Value.slice A0 (List.length l0) c0, Value.string t294, Value.tuple #[Value.int IntKind.i64 t295, Value.bool true], Value.string t294, Value.tuple #[Value.int IntKind.i64 t295, Value.bool true], Value.int IntKind.i64 t295, Value.bool true, Value.tuple #[Value.int IntKind.i64 t297, Value.bool t298], Value.string t294, Value.tuple #[Value.int IntKind.i64 t297, Value.bool t298], Value.int IntKind.i64 t297, Value.bool t298, Value.tuple #[Value.string t299, Value.bool t300], Value.string t294, Value.tuple #[Value.string t299, Value.bool t300], Value.string t299, Value.bool t300, Value.tuple #[Value.string t301, Value.bool t302], Value.string t294, Value.tuple #[Value.string t301, Value.bool t302], Value.string t301, Value.bool t302, Value.tuple #[Value.int IntKind.i64 t303, Value.bool t304], Value.string t294, Value.tuple #[Value.int IntKind.i64 t303, Value.bool t304], Value.int IntKind.i64 t303, Value.bool t304, Value.tuple #[Value.int IntKind.i64 t305, Value.bool t306], Value.string t294, Value.tuple #[Value.int IntKind.i64 t305, Value.bool t306], Value.int IntKind.i64 t305, Value.bool t306, Value.tuple #[Value.slice Ao75 (List.length t307) co75, Value.bool t308], Value.string t294, Value.tuple #[Value.slice Ao75 (List.length t307) co75, Value.bool t308], Value.slice Ao75 (List.length t307) co75, Value.bool t308, Value.tuple #[Value.slice Ao76 (List.length t311) co76, Value.bool t312], Value.string t294, Value.tuple #[Value.slice Ao76 (List.length t311) co76, Value.bool t312], Value.slice Ao76 (List.length t311) co76, Value.bool t312, Value.tuple #[Value.slice Ao77 (List.length t315) co77, Value.bool t316], Value.string t294, Value.tuple #[Value.slice Ao77 (List.length t315) co77, Value.bool t316], Value.slice Ao77 (List.length t315) co77, Value.bool t316, Value.tuple #[Value.slice Ao78 (List.length t319) co78, Value.bool t320], Value.string t294, Value.tuple #[Value.slice Ao78 (List.length t319) co78, Value.bool t320], Value.slice Ao78 (List.length t319) co78, Value.bool t320, Value.tuple #[Value.string t323, Value.bool t324], Value.string t294, Value.tuple #[Value.string t323, Value.bool t324], Value.string t323, Value.bool t324, Value.tuple #[Value.string t325, Value.bool t326], Value.string t294, Value.tuple #[Value.string t325, Value.bool t326], Value.string t325, Value.bool t326, Value.tuple #[Value.bool t327, Value.bool t328], Value.string t294, Value.tuple #[Value.bool t327, Value.bool t328], Value.bool t327, Value.bool t328, Value.tuple #[Value.bool t329, Value.bool t330], Value.string t294, Value.tuple #[Value.bool t329, Value.bool t330], Value.bool t329, Value.bool t330, Value.tuple #[Value.string t331, Value.bool t332], Value.string t294, Value.tuple #[Value.string t331, Value.bool t332], Value.string t331, Value.bool t332, Value.tuple #[Value.string t333, Value.bool t334], Value.string t294, Value.tuple #[Value.string t333, Value.bool t334], Value.string t333, Value.bool t334, Value.tuple #[Value.string t335, Value.bool t336], Value.string t294, Value.tuple #[Value.string t335, Value.bool t336], Value.string t335, Value.bool t336, Value.tuple #[Value.string t337, Value.bool t338], Value.string t294, Value.tuple #[Value.string t337, Value.bool t338], Value.string t337, Value.bool t338, Value.bool true, Value.bool t298, Value.bool false, Value.bool false, Value.int IntKind.i64 t295, Value.int IntKind.i64 t297, Value.bool false, Value.bool false, Value.bool false, Value.bool t300, Value.bool t302, Value.bool false, Value.bool false, Value.bool false, Value.string t299, Value.string t301, Value.bool false, Value.bool false, Value.bool false, Value.bool t304, Value.bool t306, Value.bool false, Value.bool false, Value.bool false, Value.int IntKind.i64 t303, Value.int IntKind.i64 t305, Value.bool false, Value.bool false, Value.bool false, Value.bool t308, Value.bool t312, Value.bool false, Value.bool false, Value.bool false, Value.slice Ao75 (List.length t307) co75, Value.slice Ao76 (List.length t311) co76, Value.bool true, Value.bool false, Value.bool false, Value.bool false, Value.bool t316, Value.bool t320, Value.bool false, Value.bool false, Value.bool false, Value.slice Ao77 (List.length t315) co77, Value.slice Ao78 (List.length t319) co78, Value.bool true, Value.bool false, Value.bool false, Value.bool false, Value.bool t324, Value.bool t326, Value.bool false, Value.bool false, Value.bool false, Value.string t323, Value.string t325, Value.bool false, Value.bool false, Value.bool false, Value.bool t328, Value.bool t330, Value.bool false, Value.bool false, Value.bool false, Value.bool t327, Value.bool t329, Value.bool false, Value.bool false, Value.bool false, Value.bool t332, Value.bool t334, Value.bool false, Value.bool false, Value.bool false, Value.string t331, Value.string t333, Value.bool false, Value.bool false, Value.bool false, Value.bool t336, Value.bool t338, Value.bool false, Value.bool false, Value.bool false, Value.string t335, Value.string t337, Value.bool false, Value.bool false, Value.bool false, Value.bool true, Value.string t294, Value.bool t341, Value.bool false, Value.bool false, Value.bool false, Value.string t294, Value.bool t342, Value.string t294, Value.bool t343, Value.bool false, Value.bool false, Value.bool false, Value.bool t300, Value.bool true, Value.bool false, Value.bool false, Value.bool false, Value.bool t304, Value.bool true, Value.bool false, Value.bool false, u291, u292, u293, u294, u295, u296, u297, u298, u299, u300, u301, u302, u303, u304, u305, u306, u307, u308, u309, u310, u311, u312, u313, u314, u315, u316, u317, u318, u319, u320, u321, Value.string t294, Value.pointer (some { block := gb344, off := 0 }), Value.tuple #[Value.bool false], u325, u326, u327, u328, u329, u330, u331, u332, u333, u334, u335, Value.string t294, Value.pointer (some { block := gb345, off := 0 }), Value.tuple #[Value.bool false], u339, u340, u341, u342, u343, u344, u345, u346, u347, u348, u349, u350, u351, u352, u353, u354, u355, u356, u357, u358, u359, u360, u361, u362, u363, u364, u365, u366, u367, u368, u369, u370, u371, u372, u373, u374, u375, u376, u377, u378, u379, u380, u381, u382, u383, u384, u385, u386, u387, u388, u389, u390, u391, u392, u393, u394, u395, u396, u397, u398, u399, u400, u401, u402, u403, u404, u405, u406, Value.bool x407_99, undef, undef, undef, undef, undef, undef, undef, undef, undef, undef, undef, undef, undef, undef, undef, undef, undef, undef, undef, undef, undef, undef, undef, undef, undef, undef, undef, undef, undef, undef, undef, undef, undef, undef, undef, undef, undef, undef, undef, undef, undef, undef, undef, undef, undef, undef, undef, undef, undef, undef, undef, undef, undef, undef, undef, undef, undef, undef, undef, undef, undef, undef, undef, undef, undef, undef, undef, undef, undef, undef, undef, undef, undef, undef, undef, undef, undef, undef, undef, undef, undef, undef, undef, undef, undef, undef, undef, undef, undef, undef, undef, undef, undef, undef, undef, undef, undef, undef, undef, undef, undef, undef, undef, undef, undef, undef, undef, undef, undef, undef, undef, undef, undef, undef, undef, undef, undef, undef, undef, undef, undef, undef, undef, undef, undef, undef, undef, undef, undef, undef, undef, undef, undef, undef, undef, undef, undef, undef, undef, undef, undef, undef, undef, undef, undef, undef, undef, undef, undef, undef, undef, undef, undef, undef, undef, undef, undef, undef, undef, undef, undef, undef, undef, undef, undef, undef, undef, undef, undef, undef, undef, undef, undef, undef, undef, undef, undef, undef, undef, undef, undef, undef, undef, undef, undef, undef, undef, undef, undef, undef, undef, undef, undef, undef, undef, undef, undef, undef, undef, undef, undef, undef, undef, undef, undef, undef, undef, undef, undef, undef, undef, undef, undef, undef, undef, undef, undef, undef, undef, undef, undef, undef, undef, undef, undef, undef, undef, undef, undef, undef, undef, undef, undef, undef, undef, undef, undef, undef, undef, undef, undef, undef, undef, undef, undef, undef, undef, undef, undef, undef, undef, undef, undef, undef, undef, undef, undef, undef, undef, undef, undef, undef, undef, undef, undef, undef], defers := [] } wc := by
 conv at x3_ in cdd _ _ => whnf
 conv in cdd _ _ => whnf
 try dsimp only
 try dsimp only at hJ1_
 cases kq with
 | zero => exact absurd HA.out (by simp [laws_FnRowsRest.j2])
 | succ kj99 =>
  have H := HA.out
  clear HA
  simp only [laws_FnRowsRest.j2] at H
  by_cases c114 : x407_99 = true
  ·subst c114
   rw [if_pos rfl] at H
   exact absurd (Option.some.inj H) (by rw [HRT.out]; decide)
  replace c114 := Bool.eq_false_iff.mpr c114
  subst c114
  rw [if_neg (show ¬ (false = true) by decide)] at H
  have H' := Aside0.mk H
  clear H
  go_wp2
  go_loopg [410] kj99 (fun kq v410 w' => ∃ (x410_4 : Int), v410 = .int .i64 x410_4 ∧ Aside0 (laws_FnRowsRest.l2 kq l1 t294 t295 t315 t323 t331 t335 t315 (t315.length : Int) x410_4 = some r) ∧ Aside0 (kq ≤ kj99) ∧ Aside0 (Kd.R (Kd.int .i64) 3 w' w.heap.size (fun _ => True) (.slice Ao77 t315.length co77) t315) ∧ Aside0 (Kd.R (Kd.int .i64) 3 w' w.heap.size (fun _ => True) (.slice Ao77 t315.length co77) t315) ∧ Aside0 (Below w.heap.size w w'))
  case atStart => exact ⟨(0), (rs), H', ⟨Nat.le_refl _⟩, ⟨pr HO_22⟩, ⟨pr HO_22⟩, ⟨bw⟩⟩
  case round =>
   clear H'
   obtain ⟨x410_4, rfl, HA, HK4, HO_22, HO_408, HB⟩ := hrel
   cases gk with
   | zero => exact absurd HA.out (by simp [laws_FnRowsRest.l2])
   | succ k4 =>
    have H := HA.out
    clear HA
    simp only [laws_FnRowsRest.l2] at H
    by_cases c115 : x410_4 < (t315.length : Int)
    ·rw [if_pos c115] at H
     have c115b0 := decide_eq_true c115
     clear c115
     replace H := oi H
     obtain ⟨c116, H⟩ := H
     have c116b0 := decide_eq_true c116
     clear c116
     replace H := oi H
     obtain ⟨c117, H⟩ := H
     have c117b0 := decide_eq_true c117
     clear c117
     replace H := oi H
     obtain ⟨c118, H⟩ := H
     have c118b0 := decide_eq_true c118
     clear c118
     replace H := oi H
     obtain ⟨c119, H⟩ := H
     have c119b0 := decide_eq_true c119
     clear c119
     replace H := ofr HRT H
     obtain ⟨c121, H⟩ := H
     have c121b0 : ((bt t294 (rd t315 x410_4)) == 62) = true := beq_iff_eq.mpr c121
     have c121b1 : ((bt t294 (rd t315 x410_4)) != 62) = false := bne_eq_false_iff_eq.mpr c121
     clear c121
     obtain ⟨ji122, hji122⟩ : ∃ j_ : Int, (wrap64 ((rd t315 x410_4) + 1)) = j_ := ⟨_, rfl⟩
     replace H : (if 0 ≤ (ji122) then (if (ji122) < (t294.size : Int) then (if (bt t294 (ji122)) = 60 then (if (rd t315 x410_4) < (t323.size : Int) then (if (bt t323 (rd t315 x410_4)) = 60 then (if (ji122) < (t323.size : Int) then (if (bt t323 (ji122)) = 62 then (laws_FnRowsRest.l2 k4 l1 t294 t295 t315 t323 t331 t335 t315 (t315.length : Int) (wrap64 (x410_4 + 1))) else (some false)) else (none)) else (some false)) else (none)) else (some false)) else (none)) else (none)) = some r := by first | (rw [hji122] at H; exact H) | (simp only [hji122] at H ⊢; exact H)
     have hji122w : (IntKind.i64.wrap ((rd t315 x410_4) + 1)) = ji122 := (i64_w _).trans hji122
     replace H := oi H
     obtain ⟨c123, H⟩ := H
     have c123b0 := decide_eq_true c123
     clear c123
     replace H := oi H
     obtain ⟨c124, H⟩ := H
     have c124b0 := decide_eq_true c124
     clear c124
     replace H := ofr HRT H
     obtain ⟨c126, H⟩ := H
     have c126b0 : ((bt t294 (ji122)) == 60) = true := beq_iff_eq.mpr c126
     have c126b1 : ((bt t294 (ji122)) != 60) = false := bne_eq_false_iff_eq.mpr c126
     clear c126
     replace H := oi H
     obtain ⟨c127, H⟩ := H
     have c127b0 := decide_eq_true c127
     clear c127
     replace H := ofr HRT H
     obtain ⟨c129, H⟩ := H
     have c129b0 : ((bt t323 (rd t315 x410_4)) == 60) = true := beq_iff_eq.mpr c129
     have c129b1 : ((bt t323 (rd t315 x410_4)) != 60) = false := bne_eq_false_iff_eq.mpr c129
     clear c129
     replace H := oi H
     obtain ⟨c130, H⟩ := H
     have c130b0 := decide_eq_true c130
     clear c130
     replace H := ofr HRT H
     obtain ⟨c132, H⟩ := H
     have c132b0 : ((bt t323 (ji122)) == 62) = true := beq_iff_eq.mpr c132
     have c132b1 : ((bt t323 (ji122)) != 62) = false := bne_eq_false_iff_eq.mpr c132
     clear c132
     have H' := Aside0.mk H
     clear H
     have p349 : 0 ≤ (x410_4 : Int) := of_decide_eq_true (by first | (with_reducible assumption) | assumption)
     have q349 : x410_4 < (t315.length : Int) := of_decide_eq_true (by first | (with_reducible assumption) | assumption)
     obtain ⟨ad349, e349, hx349_0⟩ := Kd.at_int (Kd.R_reads' HO_408.out).2.2 x410_4 p349 q349
     cases e349
     replace p349 := eq_true p349
     replace q349 := eq_true q349
     have p120 : 0 ≤ ((rd t315 x410_4) : Int) := of_decide_eq_true (by first | (with_reducible assumption) | assumption)
     have q120 : (rd t315 x410_4) < (t294.size : Int) := of_decide_eq_true (by first | (with_reducible assumption) | assumption)
     have hx120 := bt_at t294 (rd t315 x410_4)
     replace p120 := eq_true p120
     replace q120 := eq_true q120
     have p125 : 0 ≤ ((ji122) : Int) := of_decide_eq_true (by first | (with_reducible assumption) | assumption)
     have q125 : (ji122) < (t294.size : Int) := of_decide_eq_true (by first | (with_reducible assumption) | assumption)
     have hx125 := bt_at t294 (ji122)
     replace p125 := eq_true p125
     replace q125 := eq_true q125
     have p128 : 0 ≤ ((rd t315 x410_4) : Int) := of_decide_eq_true (by first | (with_reducible assumption) | assumption)
     have q128 : (rd t315 x410_4) < (t323.size : Int) := of_decide_eq_true (by first | (with_reducible assumption) | assumption)
     have hx128 := bt_at t323 (rd t315 x410_4)
     replace p128 := eq_true p128
     replace q128 := eq_true q128
     have p131 : 0 ≤ ((ji122) : Int) := of_decide_eq_true (by first | (with_reducible assumption) | assumption)
     have q131 : (ji122) < (t323.size : Int) := of_decide_eq_true (by first | (with_reducible assumption) | assumption)
     have hx131 := bt_at t323 (ji122)
     replace p131 := eq_true p131
     replace q131 := eq_true q131
     go_wp2
     go_roundg k4
     case measure => have := HK1.out; have := HK2.out; have := HJ99.out; have := HK4.out; omega
     case rel => exact ⟨(wrap64 (x410_4 + 1)), (rs), H', ⟨by have := HK1.out; have := HK2.out; have := HJ99.out; have := HK4.out; omega⟩, ⟨pr HO_22⟩, ⟨pr HO_408⟩, ⟨bw⟩⟩
    rw [if_neg c115] at H
    have c115b0 := decide_eq_false c115
    clear c115
    have H' := Aside0.mk H
    clear H
    go_wp2_with (first | ((with_reducible refine gd 440 ?_); (try (refine gate_guard (by rfl) ?_; dsimp only)); refine iter_event ?hg (N := 440) ?hd (s := t294) ?hx Tryz.underlying9 ?_; (case hd => rfl); (case hg => rfl); (case hx => exact ⟨_, rfl, by first | rfl | (go_simp; done) | (go_simp; rfl)⟩); intro gb350 hg w133 hbox hb; replace HO_22 := Aside0.mk (Kd.R_below (pr HO_22) hb); replace HO_408 := Aside0.mk (Kd.R_below (pr HO_408) hb); have IT350 := Aside0.mk (hbox); have GW350 := gs hg; have GE350 := gs hg; replace HB := bs hb; clear hb hbox hg))
    (try simp only [Act.put, List.setIfInBounds_toArray, List.set_cons_zero, List.set_cons_succ])
    go_loopg [] k4 (fun kq w' => ∃ (x351000_5 : Int), Aside0 (laws_FnRowsRest.l3 kq l1 t294 t295 t315 t323 t331 t335 x351000_5 t294 = some r) ∧ Aside0 (kq ≤ k4) ∧ Aside0 (Kd.R (Kd.int .i64) 3 w' w.heap.size (fun _ => True) (.slice Ao77 t315.length co77) t315) ∧ Aside0 (w'.heap[gb350]? = some (.stringIter t294 (x351000_5 : Int).toNat)) ∧ Aside0 (Below w.heap.size w w'))
    case atStart => exact ⟨(0), H', ⟨Nat.le_refl _⟩, ⟨pr HO_22⟩, ⟨by (with_reducible repeat (first | apply b1 | apply b2 | apply b3)); exact IT350.out⟩, ⟨bw⟩⟩
    case round =>
     clear H'
     repeat (first|clear p1|clear q1|clear hx1|clear p3|clear q3|clear hx3|clear p12|clear q12|clear hx12|clear p13|clear q13|clear hx13|clear p34|clear q34|clear hx34|clear c115|clear c115b0|clear c116|clear c116b0|clear c117|clear c117b0|clear c118|clear c118b0|clear c119|clear c119b0|clear p120|clear q120|clear hx120|clear c121|clear c121b0|clear c121b1|clear c123|clear c123b0|clear c124|clear c124b0|clear p125|clear q125|clear hx125|clear c126|clear c126b0|clear c126b1|clear c127|clear c127b0|clear p128|clear q128|clear hx128|clear c129|clear c129b0|clear c129b1|clear c130|clear c130b0|clear p131|clear q131|clear hx131|clear c132|clear c132b0|clear c132b1|clear hx349_0|clear p349|clear q349)
     obtain ⟨x351000_5, HA, HK5, HO_22, IT350, HB⟩ := hrel
     cases gk with
     | zero => exact absurd HA.out (by simp [laws_FnRowsRest.l3])
     | succ k5 =>
      have H := HA.out
      clear HA
      simp only [laws_FnRowsRest.l3] at H
      by_cases c134 : x351000_5 < (t294.size : Int)
      ·rw [if_pos c134] at H
       have c134b0 := decide_eq_true c134
       clear c134
       replace H := oi H
       obtain ⟨c135, H⟩ := H
       have c135b0 := eq_true c135
       have c135b1 := decide_eq_true c135
       clear c135
       replace H := oi H
       obtain ⟨c136, H⟩ := H
       have c136b0 := eq_true c136
       have c136b1 := decide_eq_true c136
       clear c136
       replace H := oi H
       obtain ⟨c137, H⟩ := H
       have c137b0 := decide_eq_true c137
       clear c137
       replace H := oi H
       obtain ⟨c139, H⟩ := H
       have c139b0 := decide_eq_true c139
       clear c139
       replace H := ob H
       obtain ⟨t351, A141, H⟩ := H
       (try dsimp only at H)
       by_cases c142 : t351 = true
       ·subst c142
        rw [if_pos rfl] at H
        by_cases c143 : (((bt t323 x351000_5) != (bt t294 x351000_5)) != true) = true
        ·rw [if_pos c143] at H
         have c143b0 : (((bt t323 x351000_5) != (bt t294 x351000_5)) != true) = true := c143
         (try (have c143b1 : decide (((bt t323 x351000_5) != (bt t294 x351000_5)) = true) = false := by simpa using c143))
         (try (have c143b2 : (((bt t323 x351000_5) != (bt t294 x351000_5)) == true) = false := by simpa using c143))
         (try (have c143b3 : ¬ (((bt t323 x351000_5) != (bt t294 x351000_5)) = true) := by simpa using c143))
         clear c143
         exact absurd (Option.some.inj H) (by rw [HRT.out]; decide)
        rw [if_neg c143] at H
        have c143b0 : (((bt t323 x351000_5) != (bt t294 x351000_5)) != true) = false := by simpa using c143
        (try (have c143b1 : decide (((bt t323 x351000_5) != (bt t294 x351000_5)) = true) = true := by simpa using c143))
        (try (have c143b2 : (((bt t323 x351000_5) != (bt t294 x351000_5)) == true) = true := by simpa using c143))
        clear c143
        replace H := oi H
        obtain ⟨c144, H⟩ := H
        have c144b0 := decide_eq_true c144
        clear c144
        by_cases c147 : (bt t335 x351000_5) = (bt t294 x351000_5)
        ·rw [if_pos c147] at H
         have c147b0 : ((bt t335 x351000_5) == (bt t294 x351000_5)) = true := beq_iff_eq.mpr c147
         have c147b1 : ((bt t335 x351000_5) != (bt t294 x351000_5)) = false := bne_eq_false_iff_eq.mpr c147
         clear c147
         exact absurd (Option.some.inj H) (by rw [HRT.out]; decide)
        rw [if_neg c147] at H
        have c147b0 : ((bt t335 x351000_5) == (bt t294 x351000_5)) = false := beq_eq_false_iff_ne.mpr c147
        have c147b1 : ((bt t335 x351000_5) != (bt t294 x351000_5)) = true := bne_iff_ne.mpr c147
        replace H := oi H
        obtain ⟨c148, H⟩ := H
        have c148b0 := decide_eq_true c148
        clear c148
        obtain ⟨ji150, hji150⟩ : ∃ j_ : Int, (wrap64 ((wrap64 ((t294.size : Int) - 1)) - x351000_5)) = j_ := ⟨_, rfl⟩
        replace H : (if 0 ≤ (ji150) then (if (ji150) < (t335.size : Int) then (if (bt t331 x351000_5) = (bt t335 (ji150)) then (laws_FnRowsRest.l3 k5 l1 t294 t295 t315 t323 t331 t335 (x351000_5 + 1) t294) else (some false)) else (none)) else (none)) = some r := by first | (rw [hji150] at H; exact H) | (simp only [hji150] at H ⊢; exact H)
        (try rw [hji150] at A141)
        have hji150w : (IntKind.i64.wrap ((wrap64 ((t294.size : Int) - 1)) - x351000_5)) = ji150 := (i64_w _).trans hji150
        replace H := oi H
        obtain ⟨c151, H⟩ := H
        have c151b0 := decide_eq_true c151
        clear c151
        replace H := oi H
        obtain ⟨c152, H⟩ := H
        have c152b0 := decide_eq_true c152
        clear c152
        replace H := ofr HRT H
        obtain ⟨c154, H⟩ := H
        have c154b0 : ((bt t331 x351000_5) == (bt t335 (ji150))) = true := beq_iff_eq.mpr c154
        have c154b1 : ((bt t331 x351000_5) != (bt t335 (ji150))) = false := bne_eq_false_iff_eq.mpr c154
        clear c154
        have H' := Aside0.mk H
        clear H
        try go_wp2_with (first | ((with_reducible refine gd 441 ?_); (try (refine gate_guard (by rfl) ?_; dsimp only)); refine next_event ?hg (N := 441) ?hd (g := gb350) (s := t294) (p := x351000_5) ?hx ?hb ?h0 ?h1 ?h2 ?_; (case hd => rfl); (case hg => rfl); (case hx => exact ⟨_, rfl, by first | rfl | (go_simp; done) | (go_simp; rfl)⟩); (case hb => exact (by (with_reducible repeat (first | apply b1 | apply b2 | apply b3)); exact IT350.out)); (case h0 => first | (with_reducible decide) | exact of_decide_eq_true (by first | (with_reducible assumption) | assumption)); (case h1 => exact of_decide_eq_true (by first | (with_reducible assumption) | assumption)); (case h2 => exact of_decide_eq_true (by first | (with_reducible assumption) | assumption)); intro w155 hbox hk; replace HO_22 := Aside0.mk (Kd.R_turned (pr HO_22) (by (with_reducible repeat (first | apply b1 | apply b2 | apply b3)); exact IT350.out) hk); replace IT350 := Aside0.mk (hbox); replace HB := Aside0.mk (below_turned bw GE350.out hk); clear hbox hk))
        replace HO_22 := Aside0.mk (Kd.R_drew HO_22.out)
        replace IT350 := Aside0.mk (blk_drew IT350.out)
        replace HB := Aside0.mk (below_drew1 HB.out)
        have p138 : 0 ≤ (x351000_5 : Int) := of_decide_eq_true (by first | (with_reducible assumption) | assumption)
        have q138 : x351000_5 < (t323.size : Int) := of_decide_eq_true (by first | (with_reducible assumption) | assumption)
        have hx138 := bt_at t323 x351000_5
        replace p138 := eq_true p138
        replace q138 := eq_true q138
        have p140 : 0 ≤ (x351000_5 : Int) := of_decide_eq_true (by first | (with_reducible assumption) | assumption)
        have q140 : x351000_5 < (t294.size : Int) := of_decide_eq_true (by first | (with_reducible assumption) | assumption)
        have hx140 := bt_at t294 x351000_5
        replace p140 := eq_true p140
        replace q140 := eq_true q140
        refine start_ (n := 39) (S := fun w' => True) (ds := []) (tb 39 0) (by kernel_rfl) rfl rfl trivial (fun hHeld => ?_); refine with_tabW laws_FnRowsRest.tab50 laws_FnRowsRest.bits50 (fun HT_ HW_ => ?_)
        generalize w155.drew = w156 at HO_22 IT350 HB hHeld ⊢
        refine pu 0 (some 444) (tb 39 1) ?_
        refine pu 1 (some 445) (tb 39 3) ?_
        refine pu 3 (some 447) (tb 39 11) ?_
        refine pu 4 (some 448) (tb 39 27) ?_
        refine pu 7 (some 451) (tb 39 155) ?_
        refine pu 8 (some 452) (tb 39 411) ?_
        refine take_ (i := 2) (N := some 446) (v := ?_) (a' := ?_) (tb 39 415) rfl rfl (take_ofW HT_.out HW_.out (by kernel_rfl)) (fun _ _ _ h => h) (Or.inl ⟨by rfl, ?_⟩) hHeld ?_ ?_
        rotate_left
        ·intro w' _
         go_simp
         with_reducible rfl
        rotate_left
        ·simp only [Act.put, List.setIfInBounds_toArray, List.set_cons_zero, List.set_cons_succ, i64_w, i32_w]
         rfl
        refine take_ (i := 5) (N := some 449) (v := ?_) (a' := ?_) (tb 39 447) rfl rfl (take_ofW HT_.out HW_.out (by kernel_rfl)) (fun _ _ _ h => h) (Or.inl ⟨by rfl, ?_⟩) hHeld ?_ ?_
        rotate_left
        ·intro w' _
         go_simp
         with_reducible rfl
        rotate_left
        ·simp only [Act.put, List.setIfInBounds_toArray, List.set_cons_zero, List.set_cons_succ, i64_w, i32_w]
         rfl
        refine pu 6 (some 450) (tb 39 511) ?_
        refine one_ (i := 9) (N := some 453) (tb 39 1023) rfl rfl (one_of HT_.out (by kernel_rfl)) (by decide) (fun K hK => ?_)
        refine go1 Tryz.func29 #[.slice Ao77 t315.length co77, .int .i64 x351000_5] ?_
        with_reducible refine (laws_mHas.calls k5 _ _ t315 x351000_5 true _ ?side1 ?side2 A141.out).mono ?_
        (case side1 => repeat (first | exact (Kd.R_reads' HO_22.out).2.2 | (with_reducible refine Kd.C_alloc ?_ _) | (with_reducible refine Kd.C_drewN ?_ _) | (with_reducible refine Kd.C_drew ?_)))
        (case side2 => exact (Kd.R_reads' HO_22.out).2.1)
        rintro e w' ⟨rfl, ⟨nd, rfl⟩⟩
        refine ⟨_, rfl, ?_⟩
        have p145 : 0 ≤ (x351000_5 : Int) := of_decide_eq_true (by first | (with_reducible assumption) | assumption)
        have q145 : x351000_5 < (t335.size : Int) := of_decide_eq_true (by first | (with_reducible assumption) | assumption)
        have hx145 := bt_at t335 x351000_5
        replace p145 := eq_true p145
        replace q145 := eq_true q145
        have p146 : 0 ≤ (x351000_5 : Int) := of_decide_eq_true (by first | (with_reducible assumption) | assumption)
        have q146 : x351000_5 < (t294.size : Int) := of_decide_eq_true (by first | (with_reducible assumption) | assumption)
        have hx146 := bt_at t294 x351000_5
        replace p146 := eq_true p146
        replace q146 := eq_true q146
        have p149 : 0 ≤ (x351000_5 : Int) := of_decide_eq_true (by first | (with_reducible assumption) | assumption)
        have q149 : x351000_5 < (t331.size : Int) := of_decide_eq_true (by first | (with_reducible assumption) | assumption)
        have hx149 := bt_at t331 x351000_5
        replace p149 := eq_true p149
        replace q149 := eq_true q149
        have p153 : 0 ≤ ((ji150) : Int) := of_decide_eq_true (by first | (with_reducible assumption) | assumption)
        have q153 : (ji150) < (t335.size : Int) := of_decide_eq_true (by first | (with_reducible assumption) | assumption)
        have hx153 := bt_at t335 (ji150)
        replace p153 := eq_true p153
        replace q153 := eq_true q153
        refine hK.out _ _ trivial (fun hHeld => ?_)
        clear hK K
        refine nm (some 453) ?_
        refine pu 10 (some 454) (tb 39 2047) ?_
        refine pure_ (i := 11) (N := some 455) (v := undef) (a' := ?_) (tb 39 4095) rfl rfl (any_of HT_.out (by kernel_rfl)) (fun _ _ _ h => h) (Or.inr ⟨by rfl, rfl⟩) ?_ ?_
        rotate_left
        ·simp only [Act.put, List.setIfInBounds_toArray, List.set_cons_zero, List.set_cons_succ, i64_w, i32_w]
         rfl
        refine pure_ (i := 12) (N := some 456) (v := undef) (a' := ?_) (tb 39 8191) rfl rfl (any_of HT_.out (by kernel_rfl)) (fun _ _ _ h => h) (Or.inr ⟨by rfl, rfl⟩) ?_ ?_
        rotate_left
        ·simp only [Act.put, List.setIfInBounds_toArray, List.set_cons_zero, List.set_cons_succ, i64_w, i32_w]
         rfl
        refine pure_ (i := 13) (N := some 457) (v := undef) (a' := ?_) (tb 39 16383) rfl rfl (any_of HT_.out (by kernel_rfl)) (fun _ _ _ h => h) (Or.inr ⟨by rfl, rfl⟩) ?_ ?_
        rotate_left
        ·simp only [Act.put, List.setIfInBounds_toArray, List.set_cons_zero, List.set_cons_succ, i64_w, i32_w]
         rfl
        refine pure_ (i := 14) (N := some 458) (v := undef) (a' := ?_) (tb 39 32767) rfl rfl (any_of HT_.out (by kernel_rfl)) (fun _ _ _ h => h) (Or.inr ⟨by rfl, rfl⟩) ?_ ?_
        rotate_left
        ·simp only [Act.put, List.setIfInBounds_toArray, List.set_cons_zero, List.set_cons_succ, i64_w, i32_w]
         rfl
        refine pu 15 (some 459) (tb 39 65535) ?_
        refine pu 16 (some 460) (tb 39 131071) ?_
        refine pu 17 (some 461) (tb 39 262143) ?_
        refine pu 18 (some 462) (tb 39 524287) ?_
        refine pu 19 (some 463) (tb 39 1048575) ?_
        refine pu 21 (some 465) (tb 39 3145727) ?_
        refine pu 22 (some 466) (tb 39 7340031) ?_
        refine take_ (i := 20) (N := some 464) (v := ?_) (a' := ?_) (tb 39 8388607) rfl rfl (take_ofW HT_.out HW_.out (by kernel_rfl)) (fun _ _ _ h => h) (Or.inl ⟨by rfl, ?_⟩) hHeld ?_ ?_
        rotate_left
        ·intro w' _
         go_simp
         with_reducible rfl
        rotate_left
        ·simp only [Act.put, List.setIfInBounds_toArray, List.set_cons_zero, List.set_cons_succ, i64_w, i32_w]
         rfl
        refine take_ (i := 23) (N := some 467) (v := ?_) (a' := ?_) (tb 39 16777215) rfl rfl (take_ofW HT_.out HW_.out (by kernel_rfl)) (fun _ _ _ h => h) (Or.inl ⟨by rfl, ?_⟩) hHeld ?_ ?_
        rotate_left
        ·intro w' _
         go_simp
         with_reducible rfl
        rotate_left
        ·simp only [Act.put, List.setIfInBounds_toArray, List.set_cons_zero, List.set_cons_succ, i64_w, i32_w]
         rfl
        refine pu 24 (some 468) (tb 39 33554431) ?_
        refine pu 25 (some 469) (tb 39 67108863) ?_
        refine pu 26 (some 470) (tb 39 134217727) ?_
        refine pu 27 (some 471) (tb 39 268435455) ?_
        refine pu 28 (some 472) (tb 39 536870911) ?_
        refine pu 30 (some 474) (tb 39 1610612735) ?_
        refine pu 31 (some 475) (tb 39 3758096383) ?_
        refine pu 32 (some 476) (tb 39 8053063679) ?_
        refine pu 33 (some 477) (tb 39 16642998271) ?_
        refine pu 34 (some 478) (tb 39 33822867455) ?_
        refine pu 35 (some 479) (tb 39 68182605823) ?_
        refine take_ (i := 29) (N := some 473) (v := ?_) (a' := ?_) (tb 39 68719476735) rfl rfl (take_ofW HT_.out HW_.out (by kernel_rfl)) (fun _ _ _ h => h) (Or.inl ⟨by rfl, ?_⟩) hHeld ?_ ?_
        rotate_left
        ·intro w' _
         go_simp
         with_reducible rfl
        rotate_left
        ·simp only [Act.put, List.setIfInBounds_toArray, List.set_cons_zero, List.set_cons_succ, i64_w, i32_w]
         rfl
        refine take_ (i := 36) (N := some 480) (v := ?_) (a' := ?_) (tb 39 137438953471) rfl rfl (take_ofW HT_.out HW_.out (by kernel_rfl)) (fun _ _ _ h => h) (Or.inl ⟨by rfl, ?_⟩) hHeld ?_ ?_
        rotate_left
        ·intro w' _
         go_simp
         with_reducible rfl
        rotate_left
        ·simp only [Act.put, List.setIfInBounds_toArray, List.set_cons_zero, List.set_cons_succ, i64_w, i32_w]
         rfl
        refine pu 37 (some 481) (tb 39 274877906943) ?_
        refine pu 38 (some 482) (tb 39 549755813887) ?_
        refine done_ (done_of HT_.out (by kernel_rfl)) ?_
        try go_wp2
        go_roundg k5
        case measure => have := HK1.out; have := HK2.out; have := HJ99.out; have := HK4.out; have := HK5.out; omega
        case rel => exact ⟨(x351000_5 + 1), H', ⟨by have := HK1.out; have := HK2.out; have := HJ99.out; have := HK4.out; have := HK5.out; omega⟩, ⟨pr HO_22⟩, ⟨by (with_reducible repeat (first | apply b1 | apply b2 | apply b3)); exact IT350.out⟩, ⟨bw⟩⟩
       replace c142 := Bool.eq_false_iff.mpr c142
       subst c142
       rw [if_neg (show ¬ (false = true) by decide)] at H
       replace H := ob H
       obtain ⟨t352, A157, H⟩ := H
       (try dsimp only at H)
       by_cases c158 : (((bt t323 x351000_5) != (bt t294 x351000_5)) != t352) = true
       ·rw [if_pos c158] at H
        have c158b0 : (((bt t323 x351000_5) != (bt t294 x351000_5)) != t352) = true := c158
        (try (have c158b1 : decide (((bt t323 x351000_5) != (bt t294 x351000_5)) = t352) = false := by simpa using c158))
        (try (have c158b2 : (((bt t323 x351000_5) != (bt t294 x351000_5)) == t352) = false := by simpa using c158))
        (try (have c158b3 : ¬ (((bt t323 x351000_5) != (bt t294 x351000_5)) = t352) := by simpa using c158))
        clear c158
        exact absurd (Option.some.inj H) (by rw [HRT.out]; decide)
       rw [if_neg c158] at H
       have c158b0 : (((bt t323 x351000_5) != (bt t294 x351000_5)) != t352) = false := by simpa using c158
       (try (have c158b1 : decide (((bt t323 x351000_5) != (bt t294 x351000_5)) = t352) = true := by simpa using c158))
       (try (have c158b2 : (((bt t323 x351000_5) != (bt t294 x351000_5)) == t352) = true := by simpa using c158))
       clear c158
       replace H := oi H
       obtain ⟨c159, H⟩ := H
       have c159b0 := decide_eq_true c159
       clear c159
       by_cases c162 : (bt t335 x351000_5) = (bt t294 x351000_5)
       ·rw [if_pos c162] at H
        have c162b0 : ((bt t335 x351000_5) == (bt t294 x351000_5)) = true := beq_iff_eq.mpr c162
        have c162b1 : ((bt t335 x351000_5) != (bt t294 x351000_5)) = false := bne_eq_false_iff_eq.mpr c162
        clear c162
        exact absurd (Option.some.inj H) (by rw [HRT.out]; decide)
       rw [if_neg c162] at H
       have c162b0 : ((bt t335 x351000_5) == (bt t294 x351000_5)) = false := beq_eq_false_iff_ne.mpr c162
       have c162b1 : ((bt t335 x351000_5) != (bt t294 x351000_5)) = true := bne_iff_ne.mpr c162
       replace H := oi H
       obtain ⟨c163, H⟩ := H
       have c163b0 := decide_eq_true c163
       clear c163
       obtain ⟨ji165, hji165⟩ : ∃ j_ : Int, (wrap64 ((wrap64 ((t294.size : Int) - 1)) - x351000_5)) = j_ := ⟨_, rfl⟩
       replace H : (if 0 ≤ (ji165) then (if (ji165) < (t335.size : Int) then (if (bt t331 x351000_5) = (bt t335 (ji165)) then (laws_FnRowsRest.l3 k5 l1 t294 t295 t315 t323 t331 t335 (x351000_5 + 1) t294) else (some false)) else (none)) else (none)) = some r := by first | (rw [hji165] at H; exact H) | (simp only [hji165] at H ⊢; exact H)
       (try rw [hji165] at A141)
       (try rw [hji165] at A157)
       have hji165w : (IntKind.i64.wrap ((wrap64 ((t294.size : Int) - 1)) - x351000_5)) = ji165 := (i64_w _).trans hji165
       replace H := oi H
       obtain ⟨c166, H⟩ := H
       have c166b0 := decide_eq_true c166
       clear c166
       replace H := oi H
       obtain ⟨c167, H⟩ := H
       have c167b0 := decide_eq_true c167
       clear c167
       replace H := ofr HRT H
       obtain ⟨c169, H⟩ := H
       have c169b0 : ((bt t331 x351000_5) == (bt t335 (ji165))) = true := beq_iff_eq.mpr c169
       have c169b1 : ((bt t331 x351000_5) != (bt t335 (ji165))) = false := bne_eq_false_iff_eq.mpr c169
       clear c169
       have H' := Aside0.mk H
       clear H
       try go_wp2_with (first | ((with_reducible refine gd 441 ?_); (try (refine gate_guard (by rfl) ?_; dsimp only)); refine next_event ?hg (N := 441) ?hd (g := gb350) (s := t294) (p := x351000_5) ?hx ?hb ?h0 ?h1 ?h2 ?_; (case hd => rfl); (case hg => rfl); (case hx => exact ⟨_, rfl, by first | rfl | (go_simp; done) | (go_simp; rfl)⟩); (case hb => exact (by (with_reducible repeat (first | apply b1 | apply b2 | apply b3)); exact IT350.out)); (case h0 => first | (with_reducible decide) | exact of_decide_eq_true (by first | (with_reducible assumption) | assumption)); (case h1 => exact of_decide_eq_true (by first | (with_reducible assumption) | assumption)); (case h2 => exact of_decide_eq_true (by first | (with_reducible assumption) | assumption)); intro w170 hbox hk; replace HO_22 := Aside0.mk (Kd.R_turned (pr HO_22) (by (with_reducible repeat (first | apply b1 | apply b2 | apply b3)); exact IT350.out) hk); replace IT350 := Aside0.mk (hbox); replace HB := Aside0.mk (below_turned bw GE350.out hk); clear hbox hk))
       replace HO_22 := Aside0.mk (Kd.R_drew HO_22.out)
       replace IT350 := Aside0.mk (blk_drew IT350.out)
       replace HB := Aside0.mk (below_drew1 HB.out)
       have p138 : 0 ≤ (x351000_5 : Int) := of_decide_eq_true (by first | (with_reducible assumption) | assumption)
       have q138 : x351000_5 < (t323.size : Int) := of_decide_eq_true (by first | (with_reducible assumption) | assumption)
       have hx138 := bt_at t323 x351000_5
       replace p138 := eq_true p138
       replace q138 := eq_true q138
       have p140 : 0 ≤ (x351000_5 : Int) := of_decide_eq_true (by first | (with_reducible assumption) | assumption)
       have q140 : x351000_5 < (t294.size : Int) := of_decide_eq_true (by first | (with_reducible assumption) | assumption)
       have hx140 := bt_at t294 x351000_5
       replace p140 := eq_true p140
       replace q140 := eq_true q140
       refine start_ (n := 39) (S := fun w' => True) (ds := []) (tb 39 0) (by kernel_rfl) rfl rfl trivial (fun hHeld => ?_); refine with_tabW laws_FnRowsRest.tab50 laws_FnRowsRest.bits50 (fun HT_ HW_ => ?_)
       generalize w170.drew = w171 at HO_22 IT350 HB hHeld ⊢
       refine pu 0 (some 444) (tb 39 1) ?_
       refine pu 1 (some 445) (tb 39 3) ?_
       refine pu 3 (some 447) (tb 39 11) ?_
       refine pu 4 (some 448) (tb 39 27) ?_
       refine pu 7 (some 451) (tb 39 155) ?_
       refine pu 8 (some 452) (tb 39 411) ?_
       refine take_ (i := 2) (N := some 446) (v := ?_) (a' := ?_) (tb 39 415) rfl rfl (take_ofW HT_.out HW_.out (by kernel_rfl)) (fun _ _ _ h => h) (Or.inl ⟨by rfl, ?_⟩) hHeld ?_ ?_
       rotate_left
       ·intro w' _
        go_simp
        with_reducible rfl
       rotate_left
       ·simp only [Act.put, List.setIfInBounds_toArray, List.set_cons_zero, List.set_cons_succ, i64_w, i32_w]
        rfl
       refine take_ (i := 5) (N := some 449) (v := ?_) (a' := ?_) (tb 39 447) rfl rfl (take_ofW HT_.out HW_.out (by kernel_rfl)) (fun _ _ _ h => h) (Or.inl ⟨by rfl, ?_⟩) hHeld ?_ ?_
       rotate_left
       ·intro w' _
        go_simp
        with_reducible rfl
       rotate_left
       ·simp only [Act.put, List.setIfInBounds_toArray, List.set_cons_zero, List.set_cons_succ, i64_w, i32_w]
        rfl
       refine pu 6 (some 450) (tb 39 511) ?_
       refine one_ (i := 9) (N := some 453) (tb 39 1023) rfl rfl (one_of HT_.out (by kernel_rfl)) (by decide) (fun K hK => ?_)
       refine go1 Tryz.func29 #[.slice Ao77 t315.length co77, .int .i64 x351000_5] ?_
       with_reducible refine (laws_mHas.calls k5 _ _ t315 x351000_5 false _ ?side1 ?side2 A141.out).mono ?_
       (case side1 => repeat (first | exact (Kd.R_reads' HO_22.out).2.2 | (with_reducible refine Kd.C_alloc ?_ _) | (with_reducible refine Kd.C_drewN ?_ _) | (with_reducible refine Kd.C_drew ?_)))
       (case side2 => exact (Kd.R_reads' HO_22.out).2.1)
       rintro e w' ⟨rfl, ⟨nd, rfl⟩⟩
       refine ⟨_, rfl, ?_⟩
       refine hK.out _ _ trivial (fun hHeld => ?_)
       clear hK K
       refine nm (some 453) ?_
       refine pu 10 (some 454) (tb 39 2047) ?_
       refine pu 11 (some 455) (tb 39 4095) ?_
       refine pu 12 (some 456) (tb 39 8191) ?_
       refine pu 13 (some 457) (tb 39 16383) ?_
       refine one_ (i := 14) (N := some 458) (tb 39 32767) rfl rfl (one_of HT_.out (by kernel_rfl)) (by decide) (fun K hK => ?_)
       refine go1 Tryz.func29 #[.slice Ao77 t315.length co77, .int .i64 (wrap64 (x351000_5 - 1))] ?_
       with_reducible refine (laws_mHas.calls k5 _ _ t315 (wrap64 (x351000_5 - 1)) t352 _ ?side1 ?side2 A157.out).mono ?_
       (case side1 => repeat (first | exact (Kd.R_reads' HO_22.out).2.2 | (with_reducible refine Kd.C_alloc ?_ _) | (with_reducible refine Kd.C_drewN ?_ _) | (with_reducible refine Kd.C_drew ?_)))
       (case side2 => exact (Kd.R_reads' HO_22.out).2.1)
       rintro e w' ⟨rfl, ⟨nd, rfl⟩⟩
       refine ⟨_, rfl, ?_⟩
       have p160 : 0 ≤ (x351000_5 : Int) := of_decide_eq_true (by first | (with_reducible assumption) | assumption)
       have q160 : x351000_5 < (t335.size : Int) := of_decide_eq_true (by first | (with_reducible assumption) | assumption)
       have hx160 := bt_at t335 x351000_5
       replace p160 := eq_true p160
       replace q160 := eq_true q160
       have p161 : 0 ≤ (x351000_5 : Int) := of_decide_eq_true (by first | (with_reducible assumption) | assumption)
       have q161 : x351000_5 < (t294.size : Int) := of_decide_eq_true (by first | (with_reducible assumption) | assumption)
       have hx161 := bt_at t294 x351000_5
       replace p161 := eq_true p161
       replace q161 := eq_true q161
       have p164 : 0 ≤ (x351000_5 : Int) := of_decide_eq_true (by first | (with_reducible assumption) | assumption)
       have q164 : x351000_5 < (t331.size : Int) := of_decide_eq_true (by first | (with_reducible assumption) | assumption)
       have hx164 := bt_at t331 x351000_5
       replace p164 := eq_true p164
       replace q164 := eq_true q164
       have p168 : 0 ≤ ((ji165) : Int) := of_decide_eq_true (by first | (with_reducible assumption) | assumption)
       have q168 : (ji165) < (t335.size : Int) := of_decide_eq_true (by first | (with_reducible assumption) | assumption)
       have hx168 := bt_at t335 (ji165)
       replace p168 := eq_true p168
       replace q168 := eq_true q168
       refine hK.out _ _ trivial (fun hHeld => ?_)
       clear hK K
       refine nm (some 458) ?_
       refine pu 15 (some 459) (tb 39 65535) ?_
       refine pu 16 (some 460) (tb 39 131071) ?_
       refine pu 17 (some 461) (tb 39 262143) ?_
       refine pu 18 (some 462) (tb 39 524287) ?_
       refine pu 19 (some 463) (tb 39 1048575) ?_
       refine pu 21 (some 465) (tb 39 3145727) ?_
       refine pu 22 (some 466) (tb 39 7340031) ?_
       refine take_ (i := 20) (N := some 464) (v := ?_) (a' := ?_) (tb 39 8388607) rfl rfl (take_ofW HT_.out HW_.out (by kernel_rfl)) (fun _ _ _ h => h) (Or.inl ⟨by rfl, ?_⟩) hHeld ?_ ?_
       rotate_left
       ·intro w' _
        go_simp
        with_reducible rfl
       rotate_left
       ·simp only [Act.put, List.setIfInBounds_toArray, List.set_cons_zero, List.set_cons_succ, i64_w, i32_w]
        rfl
       refine take_ (i := 23) (N := some 467) (v := ?_) (a' := ?_) (tb 39 16777215) rfl rfl (take_ofW HT_.out HW_.out (by kernel_rfl)) (fun _ _ _ h => h) (Or.inl ⟨by rfl, ?_⟩) hHeld ?_ ?_
       rotate_left
       ·intro w' _
        go_simp
        with_reducible rfl
       rotate_left
       ·simp only [Act.put, List.setIfInBounds_toArray, List.set_cons_zero, List.set_cons_succ, i64_w, i32_w]
        rfl
       refine pu 24 (some 468) (tb 39 33554431) ?_
       refine pu 25 (some 469) (tb 39 67108863) ?_
       refine pu 26 (some 470) (tb 39 134217727) ?_
       refine pu 27 (some 471) (tb 39 268435455) ?_
       refine pu 28 (some 472) (tb 39 536870911) ?_
       refine pu 30 (some 474) (tb 39 1610612735) ?_
       refine pu 31 (some 475) (tb 39 3758096383) ?_
       refine pu 32 (some 476) (tb 39 8053063679) ?_
       refine pu 33 (some 477) (tb 39 16642998271) ?_
       refine pu 34 (some 478) (tb 39 33822867455) ?_
       refine pu 35 (some 479) (tb 39 68182605823) ?_
       refine take_ (i := 29) (N := some 473) (v := ?_) (a' := ?_) (tb 39 68719476735) rfl rfl (take_ofW HT_.out HW_.out (by kernel_rfl)) (fun _ _ _ h => h) (Or.inl ⟨by rfl, ?_⟩) hHeld ?_ ?_
       rotate_left
       ·intro w' _
        go_simp
        with_reducible rfl
       rotate_left
       ·simp only [Act.put, List.setIfInBounds_toArray, List.set_cons_zero, List.set_cons_succ, i64_w, i32_w]
        rfl
       refine take_ (i := 36) (N := some 480) (v := ?_) (a' := ?_) (tb 39 137438953471) rfl rfl (take_ofW HT_.out HW_.out (by kernel_rfl)) (fun _ _ _ h => h) (Or.inl ⟨by rfl, ?_⟩) hHeld ?_ ?_
       rotate_left
       ·intro w' _
        go_simp
        with_reducible rfl
       rotate_left
       ·simp only [Act.put, List.setIfInBounds_toArray, List.set_cons_zero, List.set_cons_succ, i64_w, i32_w]
        rfl
       refine pu 37 (some 481) (tb 39 274877906943) ?_
       refine pu 38 (some 482) (tb 39 549755813887) ?_
       refine done_ (done_of HT_.out (by kernel_rfl)) ?_
       try go_wp2
       go_roundg k5
       case measure => have := HK1.out; have := HK2.out; have := HJ99.out; have := HK4.out; have := HK5.out; omega
       case rel => exact ⟨(x351000_5 + 1), H', ⟨by have := HK1.out; have := HK2.out; have := HJ99.out; have := HK4.out; have := HK5.out; omega⟩, ⟨pr HO_22⟩, ⟨by (with_reducible repeat (first | apply b1 | apply b2 | apply b3)); exact IT350.out⟩, ⟨bw⟩⟩
      rw [if_neg c134] at H
      have c134b0 := decide_eq_false c134
      clear c134
      replace H := ob H
      obtain ⟨⟨t353, t354⟩, A172, H⟩ := H
      (try dsimp only at H)
      replace H := ob H
      obtain ⟨⟨t355, t356⟩, A173, H⟩ := H
      (try dsimp only at H)
      replace H := ob H
      obtain ⟨⟨t357, t358⟩, A174, H⟩ := H
      (try dsimp only at H)
      have HC175 := Aside0.mk H
      clear H
      go_upto_region 55 with (first | ((with_reducible refine gd 441 ?_); (try (refine gate_guard (by rfl) ?_; dsimp only)); refine next_end_event ?hg (N := 441) ?hd (g := gb350) (s := t294) (p := x351000_5) ?hx ?hb ?h1 ?_; (case hd => rfl); (case hg => rfl); (case hx => exact ⟨_, rfl, by first | rfl | (go_simp; done) | (go_simp; rfl)⟩); (case hb => exact (by (with_reducible repeat (first | apply b1 | apply b2 | apply b3)); exact IT350.out)); (case h1 => exact of_decide_eq_false (by first | (with_reducible assumption) | assumption))) | ((with_reducible refine gc 6 ?_); refine gl (some 485) Tryz.func6 #[.string t331] ?_; (with_reducible refine (impl_TicksToRest.calls k5 t331 t353 t354 _ ?_ A172.out).mono ?_); exact Dr.mm HMM; rintro e w176 ⟨rfl, hb⟩; refine ⟨_, rfl, ?_⟩; replace HO_22 := Aside0.mk (Kd.R_below (pr HO_22) hb); replace HB := bs hb; (try clear hb)) | ((with_reducible refine gc 20 ?_); refine gl (some 490) Tryz.func20 #[.string t331] ?_; (with_reducible refine (impl_MirrorRow.calls t331 t355 t356 _ ?_ A173.out).mono ?_); exact Dr.mm HMM; rintro e w177 ⟨rfl, hb⟩; refine ⟨_, rfl, ?_⟩; replace HO_22 := Aside0.mk (Kd.R_below (pr HO_22) hb); replace HB := bs hb; (try clear hb)) | ((with_reducible refine gc 6 ?_); refine gl (some 495) Tryz.func6 #[.string t323] ?_; (with_reducible refine (impl_TicksToRest.calls k5 t323 t357 t358 _ ?_ A174.out).mono ?_); exact Dr.mm HMM; rintro e w178 ⟨rfl, hb⟩; refine ⟨_, rfl, ?_⟩; replace HO_22 := Aside0.mk (Kd.R_below (pr HO_22) hb); replace HB := bs hb; (try clear hb)))
      (try simp only [Act.put, List.setIfInBounds_toArray, List.set_cons_zero, List.set_cons_succ])
      go_cut [442, 450, 453, 454, 458, 459, 460, 461, 468, 469, 470, 481, 482, 484, 485, 486, 487, 488, 489, 490, 491, 492, 493, 494, 495, 496, 497, 536] from 9999 (fun _ _ _ _ _ _ _ _ _ _ _ _ _ _ _ _ _ _ _ _ _ _ _ _ _ _ _ v536 wc => ∃ (kq : Nat) (x536_174 : Bool), v536 = .bool x536_174 ∧ Aside0 (laws_FnRowsRest.j5 kq l1 t294 x536_174 = some r) ∧ Aside0 (kq ≤ k5) ∧ Aside0 (Below w.heap.size w wc))
      case first =>
       rename_i J3_ K3_ hJ3_ hM3_
       have H := HC175.out
       clear HC175
       replace H := ofr HRT H
       obtain ⟨c179, H⟩ := H
       subst c179
       replace H := ofr HRT H
       obtain ⟨c180, H⟩ := H
       have c180b0 : (t353 == t295) = true := beq_iff_eq.mpr c180
       have c180b1 : (t353 != t295) = false := bne_eq_false_iff_eq.mpr c180
       clear c180
       (first | rw [c180b0] | rw [@decide_eq_true _ _ (of_decide_eq_true c180b1)] | rw [@decide_eq_false _ _ (of_decide_eq_false c180b1)] | (simp only [i64_w, i32_w]; rw [c180b0]) | skip)
       replace H := ofr HRT H
       obtain ⟨c181, H⟩ := H
       subst c181
       replace H := ofr HRT H
       obtain ⟨c182, H⟩ := H
       have c182b0 : (t355.toList == t294.toList) = true := beq_iff_eq.mpr c182
       have c182b1 : (t355.toList != t294.toList) = false := bne_eq_false_iff_eq.mpr c182
       clear c182
       replace H := ofr HRT H
       obtain ⟨c183, H⟩ := H
       subst c183
       by_cases c184 : t295 > 0
       ·rw [if_pos c184] at H
        have c184b0 := decide_eq_true c184
        clear c184
        replace H := ofr HRT H
        obtain ⟨c185, H⟩ := H
        have c185b0 : (t357 == (wrap64 (t295 - 1))) = true := beq_iff_eq.mpr c185
        have c185b1 : (t357 != (wrap64 (t295 - 1))) = false := bne_eq_false_iff_eq.mpr c185
        clear c185
        by_cases c186 : t295 = 0
        ·rw [if_pos c186] at H
         have c186b0 : (t295 == 0) = true := beq_iff_eq.mpr c186
         have c186b1 : (t295 != 0) = false := bne_eq_false_iff_eq.mpr c186
         clear c186
         have H' := Aside0.mk H
         clear H
         go_wp2
         go_meet
         case rel => exact ⟨_, ((t323.toList != t294.toList)), (rs), H', ⟨by have := HK1.out; have := HK2.out; have := HJ99.out; have := HK4.out; have := HK5.out; first | omega | exact Nat.le_refl _⟩, ⟨bw⟩⟩
        rw [if_neg c186] at H
        have c186b0 : (t295 == 0) = false := beq_eq_false_iff_ne.mpr c186
        have c186b1 : (t295 != 0) = true := bne_iff_ne.mpr c186
        have H' := Aside0.mk H
        clear H
        go_wp2
        go_meet
        case rel => exact ⟨_, (false), (rs), H', ⟨by have := HK1.out; have := HK2.out; have := HJ99.out; have := HK4.out; have := HK5.out; first | omega | exact Nat.le_refl _⟩, ⟨bw⟩⟩
       rw [if_neg c184] at H
       have c184b0 := decide_eq_false c184
       clear c184
       by_cases c187 : t295 = 0
       ·rw [if_pos c187] at H
        have c187b0 : (t295 == 0) = true := beq_iff_eq.mpr c187
        have c187b1 : (t295 != 0) = false := bne_eq_false_iff_eq.mpr c187
        clear c187
        have H' := Aside0.mk H
        clear H
        go_wp2
        go_meet
        case rel => exact ⟨_, ((t323.toList != t294.toList)), (rs), H', ⟨by have := HK1.out; have := HK2.out; have := HJ99.out; have := HK4.out; have := HK5.out; first | omega | exact Nat.le_refl _⟩, ⟨bw⟩⟩
       rw [if_neg c187] at H
       have c187b0 : (t295 == 0) = false := beq_eq_false_iff_ne.mpr c187
       have c187b1 : (t295 != 0) = true := bne_iff_ne.mpr c187
       have H' := Aside0.mk H
       clear H
       go_wp2
       go_meet
       case rel => exact ⟨_, (false), (rs), H', ⟨by have := HK1.out; have := HK2.out; have := HJ99.out; have := HK4.out; have := HK5.out; first | omega | exact Nat.le_refl _⟩, ⟨bw⟩⟩
      case rest =>
       clear HC175
       repeat (first|clear p14|clear q14|clear hx14|clear p16|clear q16|clear hx16|clear c134|clear c134b0|clear c135|clear c136|clear c137|clear p138|clear q138|clear hx138|clear c139|clear p140|clear q140|clear hx140|clear c144|clear c148|clear c151|clear c152|clear c154|clear c158|clear c158b0|clear c158b1|clear c158b2|clear c159|clear c159b0|clear p160|clear q160|clear hx160|clear p161|clear q161|clear hx161|clear c162|clear c162b0|clear c162b1|clear c163|clear c163b0|clear p164|clear q164|clear hx164|clear c166|clear c166b0|clear c167|clear c167b0|clear p168|clear q168|clear hx168|clear c169|clear c169b0|clear c169b1|clear c180|clear c180b0|clear c180b1|clear c182|clear c182b0|clear c182b1|clear c184|clear c184b0|clear c185|clear c185b0|clear c185b1|clear c186|clear c186b0|clear c186b1|clear c187|clear c187b0|clear c187b1)
       obtain ⟨kq, x536_174, rfl, HA, HJ174, HB⟩ := hcut
       go_step
       exact laws_FnRowsRest.r3 HRT hM1_ hJ1_ u324 HK1 u338 HK2 HJ99 u411 HK4 u441 HK5 (by assumption) HA HJ174 HB

set_option maxHeartbeats 80000000 in
set_option maxRecDepth 100000 in
theorem laws_FnRowsRest.f1
 {k : Nat}
 {A0 : Option Addr}
 {c0 : Nat}
 {l0 : List Int}
 {A1 : Option Addr}
 {c1 : Nat}
 {l1 : List Int}
 {r : Bool}
 {w : World}
 (HRT : Aside0 (r = true))
 (HMM : Aside0 (Dr.Tab w))
 {t294 : ByteArray}
 {t295 : Int}
 {t296 : Bool}
 (A6 : Aside0 (impl_TicksToRest.f k t294 = some (t295, t296)))
 {t297 : Int}
 {t298 : Bool}
 {t299 : ByteArray}
 {t300 : Bool}
 {t301 : ByteArray}
 {t302 : Bool}
 {t303 : Int}
 {t304 : Bool}
 {t305 : Int}
 {t306 : Bool}
 {t307 : List Int}
 {t308 : Bool}
 {t311 : List Int}
 {t312 : Bool}
 {t315 : List Int}
 {t316 : Bool}
 {t319 : List Int}
 {t320 : Bool}
 {t323 : ByteArray}
 {t324 : Bool}
 {t325 : ByteArray}
 {t326 t327 t328 t329 t330 : Bool}
 {t331 : ByteArray}
 {t332 : Bool}
 {t333 : ByteArray}
 {t334 : Bool}
 {t335 : ByteArray}
 {t336 : Bool}
 {t337 : ByteArray}
 {t338 : Bool}
 {Ao75 : Option Addr}
 {co75 : Nat}
 {Ao76 : Option Addr}
 {co76 : Nat}
 {Ao77 : Option Addr}
 {co77 : Nat}
 {Ao78 : Option Addr}
 {co78 : Nat}
 {t341 t342 t343 : Bool}
 {w80 : World}
 (HO310 : Aside0 (Kd.R (Kd.int IntKind.i64) 3 w80 (Array.size w.heap) (fun k => ((True ∧ some k ≠ Value.ownBlock (Value.slice Ao76 (List.length t311) co76)) ∧ some k ≠ Value.ownBlock (Value.slice Ao77 (List.length t315) co77)) ∧ some k ≠ Value.ownBlock (Value.slice Ao78 (List.length t319) co78)) (Value.slice Ao75 (List.length t307) co75) t307))
 (HO314 : Aside0 (Kd.R (Kd.int IntKind.i64) 3 w80 (Array.size w.heap) (fun k => ((True ∧ some k ≠ Value.ownBlock (Value.slice Ao75 (List.length t307) co75)) ∧ some k ≠ Value.ownBlock (Value.slice Ao77 (List.length t315) co77)) ∧ some k ≠ Value.ownBlock (Value.slice Ao78 (List.length t319) co78)) (Value.slice Ao76 (List.length t311) co76) t311))
 (HO318 : Aside0 (Kd.R (Kd.int IntKind.i64) 3 w80 (Array.size w.heap) (fun k => ((True ∧ some k ≠ Value.ownBlock (Value.slice Ao75 (List.length t307) co75)) ∧ some k ≠ Value.ownBlock (Value.slice Ao76 (List.length t311) co76)) ∧ some k ≠ Value.ownBlock (Value.slice Ao78 (List.length t319) co78)) (Value.slice Ao77 (List.length t315) co77) t315))
 (HO322 : Aside0 (Kd.R (Kd.int IntKind.i64) 3 w80 (Array.size w.heap) (fun k => ((True ∧ some k ≠ Value.ownBlock (Value.slice Ao75 (List.length t307) co75)) ∧ some k ≠ Value.ownBlock (Value.slice Ao76 (List.length t311) co76)) ∧ some k ≠ Value.ownBlock (Value.slice Ao77 (List.length t315) co77)) (Value.slice Ao78 (List.length t319) co78) t319))
 (HB : Aside0 (Below (Array.size w.heap) w w80))
 {nd : Nat}
 (c49b0 : (t300 != t296) = false)
 (c49b1 : decide (t300 = t296) = true)
 (c49b2 : (t300 == t296) = true)
 (c50b0 : (t304 != t296) = false)
 (c50b1 : decide (t304 = t296) = true)
 (c50b2 : (t304 == t296) = true)
 (c51b0 : (t308 != t296) = false)
 (c51b1 : decide (t308 = t296) = true)
 (c51b2 : (t308 == t296) = true)
 (c52b0 : (t316 != t296) = false)
 (c52b1 : decide (t316 = t296) = true)
 (c52b2 : (t316 == t296) = true)
 (c53b0 : (t324 != t296) = false)
 (c53b1 : decide (t324 = t296) = true)
 (c53b2 : (t324 == t296) = true)
 (c54b0 : (t328 != t296) = false)
 (c54b1 : decide (t328 = t296) = true)
 (c54b2 : (t328 == t296) = true)
 (c55b0 : (t332 != t296) = false)
 (c55b1 : decide (t332 = t296) = true)
 (c55b2 : (t332 == t296) = true)
 (c56b0 : (t336 != t296) = false)
 (c56b1 : decide (t336 = t296) = true)
 (c56b2 : (t336 == t296) = true)
 (HC57 : Aside0 ((if t296 = true then laws_FnRowsRest.l0 k l1 t294 t295 t299 t303 t307 t315 t323 t327 t331 t335 0 0 0 t294 else j6 k l1) = some r))
 {J1_ K1_ : Act → World → Prop}
 (hJ1_ : ∀ (a' : Act) (w' : World), (∃ u4 u42 u43 u44 u45 u46 u48 u49 u50 u51 u52 u53 u54 u55 u56 u57 u58 u59 u262 u263 u266 u267 u268 u269 u271 u272 u273 u274 u276 u278 u279 u280 u281 u282 u283 u284 u285 u286 u287 u288 u289 u290 u291 u292 u293 u294 u295 u296 u297 u298 u299 u300 u301 u302 u303 u304 u305 u306 u307 u308 u309 u310 u311 u312 u313 u314 u315 u316 u317 u318 u319 u320 u321 u322 u323 u324 u325 u326 u327 u328 u329 u330 u331 u332 u333 u334 u335 u336 u337 u338 u339 u340 u341 u342 u343 u344 u345 u346 u347 u348 u349 u350 u351 u352 u353 u354 u355 u356 u357 u358 u359 u360 u361 u362 u363 u364 u365 u366 u367 u368 u369 u370 u371 u372 u373 u374 u375 u376 u377 u378 u379 u380 u381 u382 u383 u384 u385 u386 u387 u388 u389 u390 u391 u392 u393 u394 u395 u396 u397 u398 u399 u400 u401 u402 u403 u404 u405 u406 u407 u408 u409 u410 u411 u412 u413 u414 u415 u416 u417 u418 u419 u420 u421 u422 u423 u424 u425 u426 u427 u428 u429 u430 u431 u432 u433 u434 u435 u436 u437 u438 u439 u440 u441 u442 u443 u444 u445 u446 u447 u448 u449 u450 u451 u452 u453 u454 u455 u456 u457 u458 u459 u460 u461 u462 u463 u464 u465 u466 u467 u468 u469 u470 u471 u472 u473 u474 u475 u476 u477 u478 u479 u480 u481 u482 u483 u484 u485 u486 u487 u488 u489 u490 u491 u492 u493 u494 u495 u496 u497 u498 u499 u500 u501 u502 u503 u504 u505 u506 u507 u508 u509 u510 u511 u512 u513 u514 u515 u516 u517 u518 u519 u520 u521 u522 u523 u524 u525 u526 u527 u528 u529 u530 u531 u532 u533 u534 u535 u536 u537 u538 u539 u540 u541 u542 u543 u544 u545 u546 u547 u548 u549 u550 u551 u552 u553 u554 u555 u556 u557 u558 u559, (∃ kq, Aside0 (j6 kq l1 = some r) ∧ Aside0 (kq ≤ k) ∧ Aside0 (Below (Array.size w.heap) w w')) ∧ a' = { tmps := #[Value.slice A0 (List.length l0) c0, Value.slice A1 (List.length l1) c1, undef, undef, u4, Value.string t294, Value.int IntKind.i64 t295, Value.bool t296, Value.int IntKind.i64 t297, Value.bool t298, Value.string t299, Value.bool t300, Value.string t301, Value.bool t302, Value.int IntKind.i64 t303, Value.bool t304, Value.int IntKind.i64 t305, Value.bool t306, Value.slice Ao75 (List.length t307) co75, Value.bool t308, Value.slice Ao76 (List.length t311) co76, Value.bool t312, Value.slice Ao77 (List.length t315) co77, Value.bool t316, Value.slice Ao78 (List.length t319) co78, Value.bool t320, Value.string t323, Value.bool t324, Value.string t325, Value.bool t326, Value.bool t327, Value.bool t328, Value.bool t329, Value.bool t330, Value.string t331, Value.bool t332, Value.string t333, Value.bool t334, Value.string t335, Value.bool t336, Value.string t337, Value.bool t338, u42, u43, u44, u45, u46, undef, u48, u49, u50, u51, u52, u53, u54, u55, u56, u57, u58, u59, undef, undef, undef, undef, undef, undef, undef, undef, undef, undef, undef, undef, undef, undef, undef, undef, undef, undef, undef, undef, undef, undef, undef, Value.slice A0 (List.length l0) c0, Value.slice A1 (List.length l1) c1, Value.bool false, Value.slice A0 (List.length l0) c0, Value.string t294, Value.tuple #[Value.int IntKind.i64 t295, Value.bool t296], Value.string t294, Value.tuple #[Value.int IntKind.i64 t295, Value.bool t296], Value.int IntKind.i64 t295, Value.bool t296, Value.tuple #[Value.int IntKind.i64 t297, Value.bool t298], Value.string t294, Value.tuple #[Value.int IntKind.i64 t297, Value.bool t298], Value.int IntKind.i64 t297, Value.bool t298, Value.tuple #[Value.string t299, Value.bool t300], Value.string t294, Value.tuple #[Value.string t299, Value.bool t300], Value.string t299, Value.bool t300, Value.tuple #[Value.string t301, Value.bool t302], Value.string t294, Value.tuple #[Value.string t301, Value.bool t302], Value.string t301, Value.bool t302, Value.tuple #[Value.int IntKind.i64 t303, Value.bool t304], Value.string t294, Value.tuple #[Value.int IntKind.i64 t303, Value.bool t304], Value.int IntKind.i64 t303, Value.bool t304, Value.tuple #[Value.int IntKind.i64 t305, Value.bool t306], Value.string t294, Value.tuple #[Value.int IntKind.i64 t305, Value.bool t306], Value.int IntKind.i64 t305, Value.bool t306, Value.tuple #[Value.slice Ao75 (List.length t307) co75, Value.bool t308], Value.string t294, Value.tuple #[Value.slice Ao75 (List.length t307) co75, Value.bool t308], Value.slice Ao75 (List.length t307) co75, Value.bool t308, Value.tuple #[Value.slice Ao76 (List.length t311) co76, Value.bool t312], Value.string t294, Value.tuple #[Value.slice Ao76 (List.length t311) co76, Value.bool t312], Value.slice Ao76 (List.length t311) co76, Value.bool t312, Value.tuple #[Value.slice Ao77 (List.length t315) co77, Value.bool t316], Value.string t294, Value.tuple #[Value.slice Ao77 (List.length t315) co77, Value.bool t316], Value.slice Ao77 (List.length t315) co77, Value.bool t316, Value.tuple #[Value.slice Ao78 (List.length t319) co78, Value.bool t320], Value.string t294, Value.tuple #[Value.slice Ao78 (List.length t319) co78, Value.bool t320], Value.slice Ao78 (List.length t319) co78, Value.bool t320, Value.tuple #[Value.string t323, Value.bool t324], Value.string t294, Value.tuple #[Value.string t323, Value.bool t324], Value.string t323, Value.bool t324, Value.tuple #[Value.string t325, Value.bool t326], Value.string t294, Value.tuple #[Value.string t325, Value.bool t326], Value.string t325, Value.bool t326, Value.tuple #[Value.bool t327, Value.bool t328], Value.string t294, Value.tuple #[Value.bool t327, Value.bool t328], Value.bool t327, Value.bool t328, Value.tuple #[Value.bool t329, Value.bool t330], Value.string t294, Value.tuple #[Value.bool t329, Value.bool t330], Value.bool t329, Value.bool t330, Value.tuple #[Value.string t331, Value.bool t332], Value.string t294, Value.tuple #[Value.string t331, Value.bool t332], Value.string t331, Value.bool t332, Value.tuple #[Value.string t333, Value.bool t334], Value.string t294, Value.tuple #[Value.string t333, Value.bool t334], Value.string t333, Value.bool t334, Value.tuple #[Value.string t335, Value.bool t336], Value.string t294, Value.tuple #[Value.string t335, Value.bool t336], Value.string t335, Value.bool t336, Value.tuple #[Value.string t337, Value.bool t338], Value.string t294, Value.tuple #[Value.string t337, Value.bool t338], Value.string t337, Value.bool t338, Value.bool t296, Value.bool t298, Value.bool false, Value.bool false, Value.int IntKind.i64 t295, Value.int IntKind.i64 t297, Value.bool false, Value.bool false, Value.bool false, Value.bool t300, Value.bool t302, Value.bool false, Value.bool false, Value.bool false, Value.string t299, Value.string t301, Value.bool false, Value.bool false, Value.bool false, Value.bool t304, Value.bool t306, Value.bool false, Value.bool false, Value.bool false, Value.int IntKind.i64 t303, Value.int IntKind.i64 t305, Value.bool false, Value.bool false, Value.bool false, Value.bool t308, Value.bool t312, Value.bool false, Value.bool false, Value.bool false, Value.slice Ao75 (List.length t307) co75, Value.slice Ao76 (List.length t311) co76, Value.bool true, Value.bool false, Value.bool false, Value.bool false, Value.bool t316, Value.bool t320, Value.bool false, Value.bool false, Value.bool false, Value.slice Ao77 (List.length t315) co77, Value.slice Ao78 (List.length t319) co78, Value.bool true, Value.bool false, Value.bool false, Value.bool false, Value.bool t324, Value.bool t326, Value.bool false, Value.bool false, Value.bool false, Value.string t323, Value.string t325, Value.bool false, Value.bool false, Value.bool false, Value.bool t328, Value.bool t330, Value.bool false, Value.bool false, Value.bool false, Value.bool t327, Value.bool t329, Value.bool false, Value.bool false, Value.bool false, Value.bool t332, Value.bool t334, Value.bool false, Value.bool false, Value.bool false, Value.string t331, Value.string t333, Value.bool false, Value.bool false, Value.bool false, Value.bool t336, Value.bool t338, Value.bool false, u262, u263, Value.string t335, Value.string t337, u266, u267, u268, u269, Value.string t294, u271, u272, u273, u274, Value.string t294, u276, Value.string t294, u278, u279, u280, u281, u282, u283, u284, u285, u286, u287, u288, u289, u290, u291, u292, u293, u294, u295, u296, u297, u298, u299, u300, u301, u302, u303, u304, u305, u306, u307, u308, u309, u310, u311, u312, u313, u314, u315, u316, u317, u318, u319, u320, u321, u322, u323, u324, u325, u326, u327, u328, u329, u330, u331, u332, u333, u334, u335, u336, u337, u338, u339, u340, u341, u342, u343, u344, u345, u346, u347, u348, u349, u350, u351, u352, u353, u354, u355, u356, u357, u358, u359, u360, u361, u362, u363, u364, u365, u366, u367, u368, u369, u370, u371, u372, u373, u374, u375, u376, u377, u378, u379, u380, u381, u382, u383, u384, u385, u386, u387, u388, u389, u390, u391, u392, u393, u394, u395, u396, u397, u398, u399, u400, u401, u402, u403, u404, u405, u406, u407, u408, u409, u410, u411, u412, u413, u414, u415, u416, u417, u418, u419, u420, u421, u422, u423, u424, u425, u426, u427, u428, u429, u430, u431, u432, u433, u434, u435, u436, u437, u438, u439, u440, u441, u442, u443, u444, u445, u446, u447, u448, u449, u450, u451, u452, u453, u454, u455, u456, u457, u458, u459, u460, u461, u462, u463, u464, u465, u466, u467, u468, u469, u470, u471, u472, u473, u474, u475, u476, u477, u478, u479, u480, u481, u482, u483, u484, u485, u486, u487, u488, u489, u490, u491, u492, u493, u494, u495, u496, u497, u498, u499, u500, u501, u502, u503, u504, u505, u506, u507, u508, u509, u510, u511, u512, u513, u514, u515, u516, u517, u518, u519, u520, u521, u522, u523, u524, u525, u526, u527, u528, u529, u530, u531, u532, u533, u534, u535, u536, u537, u538, u539, u540, u541, u542, u543, u544, u545, u546, u547, u548, u549, u550, u551, u552, u553, u554, u555, u556, u557, u558, u559, undef, undef, undef, undef, undef, undef, undef, undef, undef, undef, undef, undef, undef, undef, undef, undef, undef, undef, undef, undef, undef, undef, undef, undef, undef, undef, undef, undef, undef, undef, undef, undef, undef, undef, undef, undef, undef, undef, undef, undef, undef, undef, undef, undef, undef, undef, undef, undef, undef, undef, undef, undef, undef, undef, undef, undef, undef, undef, undef, undef, undef, undef, undef, undef, undef, undef, undef, undef, undef, undef, undef, undef, undef, undef, undef, undef, undef, undef, undef, undef, undef, undef, undef, undef, undef, undef, undef, undef, undef, undef, undef, undef, undef, undef, undef, undef, undef, undef, undef, undef, undef, undef, undef, undef, undef, undef, undef, undef, undef, undef, undef, undef, undef, undef], defers := [] }) → J1_ a' w')
 (hM1_ : ∀ (a' : Act) (w' : World), Met J1_ a' w' → K1_ a' w') :
 Code.wp Tryz.prog (cdd Tryz.f3 [1, 1, 1, 1, 1, 1, 1, 1, 1, 1, 1, 1, 1, 1, 1, 1, 1, 1, 1, 1, 1, 1, 0, 1]) (Exit.then K1_ (bodyPost Tryz.prog Tryz.f3 fun e w' => e = Ending.returned (Value.bool r) ∧ Below (Array.size w.heap) w w')) { tmps := #[Value.slice A0 (List.length l0) c0, Value.slice A1 (List.length l1) c1, undef, undef, Value.bool false, Value.string t294, Value.int IntKind.i64 t295, Value.bool t296, Value.int IntKind.i64 t297, Value.bool t298, Value.string t299, Value.bool t300, Value.string t301, Value.bool t302, Value.int IntKind.i64 t303, Value.bool t304, Value.int IntKind.i64 t305, Value.bool t306, Value.slice Ao75 (List.length t307) co75, Value.bool t308, Value.slice Ao76 (List.length t311) co76, Value.bool t312, Value.slice Ao77 (List.length t315) co77, Value.bool t316, Value.slice Ao78 (List.length t319) co78, Value.bool t320, Value.string t323, Value.bool t324, Value.string t325, Value.bool t326, Value.bool t327, Value.bool t328, Value.bool t329, Value.bool t330, Value.string t331, Value.bool t332, Value.string t333, Value.bool t334, Value.string t335, Value.bool t336, Value.string t337, Value.bool t338, undef, undef, undef, undef, undef, undef, undef, undef, undef, undef, undef, undef, undef, undef, undef, undef, undef, undef, undef, undef, undef, undef, undef, undef, undef, undef, undef, undef, undef, undef, undef, undef, undef, undef, undef, undef, undef, undef, undef, undef, undef, Value.slice A0 (List.length l0) c0, Value.slice A1 (List.length l1) c1, Value.bool false, Value.slice A0 (List.length l0) c0, Value.string t294, Value.tuple #[Value.int IntKind.i64 t295, Value.bool t296], Value.string t294, Value.tuple #[Value.int IntKind.i64 t295, Value.bool t296], Value.int IntKind.i64 t295, Value.bool t296, Value.tuple #[Value.int IntKind.i64 t297, Value.bool t298], Value.string t294, Value.tuple #[Value.int IntKind.i64 t297, Value.bool t298], Value.int IntKind.i64 t297, Value.bool t298, Value.tuple #[Value.string t299, Value.bool t300], Value.string t294, Value.tuple #[Value.string t299, Value.bool t300], Value.string t299, Value.bool t300, Value.tuple #[Value.string t301, Value.bool t302], Value.string t294, Value.tuple #[Value.string t301, Value.bool t302], Value.string t301, Value.bool t302, Value.tuple #[Value.int IntKind.i64 t303, Value.bool t304], Value.string t294, Value.tuple #[Value.int IntKind.i64 t303, Value.bool t304], Value.int IntKind.i64 t303, Value.bool t304, Value.tuple #[Value.int IntKind.i64 t305, Value.bool t306], Value.string t294, Value.tuple #[Value.int IntKind.i64 t305, Value.bool t306], Value.int IntKind.i64 t305, Value.bool t306, Value.tuple #[Value.slice Ao75 (List.length t307) co75, Value.bool t308], Value.string t294, Value.tuple #[Value.slice Ao75 (List.length t307) co75, Value.bool t308], Value.slice Ao75 (List.length t307) co75, Value.bool t308, Value.tuple #[Value.slice Ao76 (List.length t311) co76, Value.bool t312], Value.string t294, Value.tuple #[Value.slice Ao76 (List.length t311) co76, Value.bool t312], Value.slice Ao76 (List.length t311) co76, Value.bool t312, Value.tuple #[Value.slice Ao77 (List.length t315) co77, Value.bool t316], Value.string t294, Value.tuple #[Value.slice Ao77 (List.length t315) co77, Value.bool t316], Value.slice Ao77 (List.length t315) co77, Value.bool t316, Value.tuple #[Value.slice Ao78 (List.length t319) co78, Value.bool t320], Value.string t294, Value.tuple #[Value.slice Ao78 (List.length t319) co78, Value.bool t320], Value.slice Ao78 (List.length t319) co78, Value.bool t320, Value.tuple #[Value.string t323, Value.bool t324], Value.string t294, Value.tuple #[Value.string t323, Value.bool t324], Value.string t323, Value.bool t324, Value.tuple #[Value.string t325, Value.bool t326], Value.string t294, Value.tuple #[Value.string t325, Value.bool t326], Value.string t325, Value.bool t326, Value.tuple #[Value.bool t327, Value.bool t328], Value.string t294, Value.tuple #[Value.bool t327, Value.bool t328], Value.bool t327, Value.bool t328, Value.tuple #[Value.bool t329, Value.bool t330], Value.string t294, Value.tuple #[Value.bool t329, Value.bool t330], Value.bool t329, Value.bool t330, Value.tuple #[Value.string t331, Value.bool t332], Value.string t294, Value.tuple #[Value.string t331, Value.bool t332], Value.string t331, Value.bool t332, Value.tuple #[Value.string t333, Value.bool t334], Value.string t294, Value.tuple #[Value.string t333, Value.bool t334], Value.string t333, Value.bool t334, Value.tuple #[Value.string t335, Value.bool t336], Value.string t294, Value.tuple #[Value.string t335, Value.bool t336], Value.string t335, Value.bool t336, Value.tuple #[Value.string t337, Value.bool t338], Value.string t294, Value.tuple #[Value.string t337, Value.bool t338], Value.string t337, Value.bool t338, Value.bool t296, Value.bool t298, Value.bool false, Value.bool false, Value.int IntKind.i64 t295, Value.int IntKind.i64 t297, Value.bool false, Value.bool false, Value.bool false, Value.bool t300, Value.bool t302, Value.bool false, Value.bool false, Value.bool false, Value.string t299, Value.string t301, Value.bool false, Value.bool false, Value.bool false, Value.bool t304, Value.bool t306, Value.bool false, Value.bool false, Value.bool false, Value.int IntKind.i64 t303, Value.int IntKind.i64 t305, Value.bool false, Value.bool false, Value.bool false, Value.bool t308, Value.bool t312, Value.bool false, Value.bool false, Value.bool false, Value.slice Ao75 (List.length t307) co75, Value.slice Ao76 (List.length t311) co76, Value.bool true, Value.bool false, Value.bool false, Value.bool false, Value.bool t316, Value.bool t320, Value.bool false, Value.bool false, Value.bool false, Value.slice Ao77 (List.length t315) co77, Value.slice Ao78 (List.length t319) co78, Value.bool true, Value.bool false, Value.bool false, Value.bool false, Value.bool t324, Value.bool t326, Value.bool false, Value.bool false, Value.bool false, Value.string t323, Value.string t325, Value.bool false, Value.bool false, Value.bool false, Value.bool t328, Value.bool t330, Value.bool false, Value.bool false, Value.bool false, Value.bool t327, Value.bool t329, Value.bool false, Value.bool false, Value.bool false, Value.bool t332, Value.bool t334, Value.bool false, Value.bool false, Value.bool false, Value.string t331, Value.string t333, Value.bool false, Value.bool false, Value.bool false, Value.bool t336, Value.bool t338, Value.bool false, Value.bool false, Value.bool false, Value.string t335, Value.string t337, Value.bool false, Value.bool false, Value.bool false, Value.bool t296, Value.string t294, Value.bool t341, Value.bool false, Value.bool false, Value.bool false, Value.string t294, Value.bool t342, Value.string t294, Value.bool t343, Value.bool false, Value.bool false, Value.bool false, Value.bool t300, Value.bool t296, Value.bool false, Value.bool false, Value.bool false, Value.bool t304, Value.bool t296, Value.bool false, Value.bool false, Value.bool false, Value.bool t308, Value.bool t296, Value.bool false, Value.bool false, Value.bool false, Value.bool t316, Value.bool t296, Value.bool false, Value.bool false, Value.bool false, Value.bool t324, Value.bool t296, Value.bool false, Value.bool false, Value.bool false, Value.bool t328, Value.bool t296, Value.bool false, Value.bool false, Value.bool false, Value.bool t332, Value.bool t296, Value.bool false, Value.bool false, Value.bool false, Value.bool t336, Value.bool t296, Value.bool false, Value.bool false, Value.bool t296, undef, undef, undef, undef, undef, undef, undef, undef, undef, undef, undef, undef, undef, undef, undef, undef, undef, undef, undef, undef, undef, undef, undef, undef, undef, undef, undef, undef, undef, undef, undef, undef, undef, undef, undef, undef, undef, undef, undef, undef, undef, undef, undef, undef, undef, undef, undef, undef, undef, undef, undef, undef, undef, undef, undef, undef, undef, undef, undef, undef, undef, undef, undef, undef, undef, undef, undef, undef, undef, undef, undef, undef, undef, undef, undef, undef, undef, undef, undef, undef, undef, undef, undef, undef, undef, undef, undef, undef, undef, undef, undef, undef, undef, undef, undef, undef, undef, undef, undef, undef, undef, undef, undef, undef, undef, undef, undef, undef, undef, undef, undef, undef, undef, undef, undef, undef, undef, undef, undef, undef, undef, undef, undef, undef, undef, undef, undef, undef, undef, undef, undef, undef, undef, undef, undef, undef, undef, undef, undef, undef, undef, undef, undef, undef, undef, undef, undef, undef, undef, undef, undef, undef, undef, undef, undef, undef, undef, undef, undef, undef, undef, undef, undef, undef, undef, undef, undef, undef, undef, undef, undef, undef, undef, undef, undef, undef, undef, undef, undef, undef, undef, undef, undef, undef, undef, undef, undef, undef, undef, undef, undef, undef, undef, undef, undef, undef, undef, undef, undef, undef, undef, undef, undef, undef, undef, undef, undef, undef, undef, undef, undef, undef, undef, undef, undef, undef, undef, undef, undef, undef, undef, undef, undef, undef, undef, undef, undef, undef, undef, undef, undef, undef, undef, undef, undef, undef, undef, undef, undef, undef, undef, undef, undef, undef, undef, undef, undef, undef, undef, undef, undef, undef, undef, undef, undef, undef, undef, undef, undef, undef, undef, undef, undef, undef, undef, undef, undef, undef, undef, undef, undef, undef, undef, undef, undef, undef, undef, undef, undef, undef, undef, undef, undef, undef, undef, undef, undef, undef, undef, undef, undef, undef, undef, undef, undef, undef, undef, undef, undef, undef, undef, undef, undef, undef, undef, undef, undef, undef, undef, undef, undef, undef, undef, undef, undef, undef, undef, undef, undef, undef, undef, undef, undef, undef, undef, undef, undef, undef, undef, undef, undef, undef, undef, undef, undef, undef, undef, undef, undef, undef, undef, undef, undef, undef, undef, undef, undef, undef, undef, undef, undef, undef], defers := [] } (World.drewN w80 nd) := by
 conv in cdd _ _ => whnf
 try dsimp only
 try dsimp only at hJ1_
 have H := HC57.out
 clear HC57
 by_cases c81 : t296 = true
 ·subst c81
  rw [if_pos rfl] at H
  have H' := Aside0.mk H
  clear H
  go_wp2_with (first | ((with_reducible refine gd 323 ?_); (try (refine gate_guard (by rfl) ?_; dsimp only)); refine iter_event ?hg (N := 323) ?hd (s := t294) ?hx Tryz.underlying9 ?_; (case hd => rfl); (case hg => rfl); (case hx => exact ⟨_, rfl, by first | rfl | (go_simp; done) | (go_simp; rfl)⟩); intro gb344 hg w82 hbox hb; replace HO310 := Aside0.mk (Kd.R_below (pr HO310) hb); replace HO314 := Aside0.mk (Kd.R_below (pr HO314) hb); replace HO318 := Aside0.mk (Kd.R_below (pr HO318) hb); replace HO322 := Aside0.mk (Kd.R_below (pr HO322) hb); have IT344 := Aside0.mk (hbox); have GW344 := gs hg; have GE344 := gs hg; replace HB := bs hb; clear hb hbox hg))
  (try simp only [Act.put, List.setIfInBounds_toArray, List.set_cons_zero, List.set_cons_succ])
  go_loopg [42, 43] k (fun kq v42 v43 w' => ∃ (x42_1 : Int) (x43_1 : Int) (x345000_1 : Int), v42 = .int .i64 x42_1 ∧ v43 = .int .i64 x43_1 ∧ Aside0 (laws_FnRowsRest.l0 kq l1 t294 t295 t299 t303 t307 t315 t323 t327 t331 t335 x42_1 x43_1 x345000_1 t294 = some r) ∧ Aside0 (kq ≤ k) ∧ Aside0 (Kd.R (Kd.int .i64) 3 w' w.heap.size (fun k_ => some k_ ≠ ((.slice Ao77 t315.length co77) : Value).ownBlock) (.slice Ao75 t307.length co75) t307) ∧ Aside0 (Kd.R (Kd.int .i64) 3 w' w.heap.size (fun k_ => some k_ ≠ ((.slice Ao75 t307.length co75) : Value).ownBlock) (.slice Ao77 t315.length co77) t315) ∧ Aside0 (w'.heap[gb344]? = some (.stringIter t294 (x345000_1 : Int).toNat)) ∧ Aside0 (Below w.heap.size w w'))
  case atStart => exact ⟨(0), (0), (0), (rs), (rs), H', ⟨Nat.le_refl _⟩, ⟨by (with_reducible repeat (first | apply Kd.R_alloc | apply Kd.R_drewN | apply Kd.R_drew)); exact Kd.R_mono HO310.out (fun _ hk => hk.1.2)⟩, ⟨by (with_reducible repeat (first | apply Kd.R_alloc | apply Kd.R_drewN | apply Kd.R_drew)); exact Kd.R_mono HO318.out (fun _ hk => hk.1.1.2)⟩, ⟨by (with_reducible repeat (first | apply b1 | apply b2 | apply b3)); exact IT344.out⟩, ⟨bw⟩⟩
  case round =>
   clear H'
   repeat (first|clear c1|clear c2|clear p2|clear c3|clear c5|clear c6|clear c7|clear c8|clear c9|clear c10|clear c11|clear c12|clear c13|clear c14|clear c15|clear c16|clear c17|clear c18|clear c19|clear c20|clear c21|clear c22|clear c23|clear c24|clear c24b0|clear c24b1|clear c24b2|clear c25|clear c25b0|clear c25b1|clear c26|clear c26b0|clear c26b1|clear c26b2|clear c27|clear c27b0|clear c27b1|clear c28|clear c28b0|clear c28b1|clear c28b2|clear c29|clear c29b0|clear c29b1|clear c30|clear c30b0|clear c30b1|clear c30b2|clear c33|clear c33b0|clear c33b1|clear c33b2|clear c36|clear c36b0|clear c36b1|clear c36b2|clear c37|clear c37b0|clear c37b1|clear c38|clear c38b0|clear c38b1|clear c38b2|clear c39|clear c39b0|clear c39b1|clear c39b2|clear c40|clear c40b0|clear c40b1|clear c40b2|clear c41|clear c41b0|clear c41b1|clear c42|clear c42b0|clear c42b1|clear c42b2|clear c43|clear c43b0|clear c43b1|clear c45|clear c45b0|clear c45b1|clear c45b2|clear c48|clear c48b0|clear c48b1|clear c48b2|clear c49|clear c49b0|clear c49b1|clear c49b2|clear c50|clear c50b0|clear c50b1|clear c50b2|clear c51|clear c51b0|clear c51b1|clear c51b2|clear c52|clear c52b0|clear c52b1|clear c52b2|clear c53|clear c53b0|clear c53b1|clear c53b2|clear c54|clear c54b0|clear c54b1|clear c54b2|clear c55|clear c55b0|clear c55b1|clear c55b2|clear c56|clear c56b0|clear c56b1|clear c56b2)
   obtain ⟨x42_1, x43_1, x345000_1, rfl, rfl, HA, HK1, HO_18, HO_22, IT344, HB⟩ := hrel
   cases gk with
   | zero => exact absurd HA.out (by simp [laws_FnRowsRest.l0])
   | succ k1 =>
    have H := HA.out
    clear HA
    simp only [laws_FnRowsRest.l0] at H
    by_cases c83 : x345000_1 < (t294.size : Int)
    ·rw [if_pos c83] at H
     have c83b0 := decide_eq_true c83
     clear c83
     (first | rw [c83b0] | rw [@decide_eq_true _ _ (of_decide_eq_true c83b1)] | rw [@decide_eq_false _ _ (of_decide_eq_false c83b1)] | (simp only [i64_w, i32_w]; rw [c83b0]) | skip)
     replace H := oi H
     obtain ⟨c84, H⟩ := H
     have c84b0 := eq_true c84
     have c84b1 := decide_eq_true c84
     clear c84
     replace H := oi H
     obtain ⟨c85, H⟩ := H
     have c85b0 := eq_true c85
     have c85b1 := decide_eq_true c85
     clear c85
     replace H := oi H
     obtain ⟨c86, H⟩ := H
     have c86b0 := decide_eq_true c86
     clear c86
     by_cases c88 : (bt t294 x345000_1) = 62
     ·rw [if_pos c88] at H
      have c88b0 : ((bt t294 x345000_1) == 62) = true := beq_iff_eq.mpr c88
      have c88b1 : ((bt t294 x345000_1) != 62) = false := bne_eq_false_iff_eq.mpr c88
      clear c88
      have H' := Aside0.mk H
      clear H
      go_wp2_with (first | ((with_reducible refine gd 324 ?_); (try (refine gate_guard (by rfl) ?_; dsimp only)); refine next_event ?hg (N := 324) ?hd (g := gb344) (s := t294) (p := x345000_1) ?hx ?hb ?h0 ?h1 ?h2 ?_; (case hd => rfl); (case hg => rfl); (case hx => exact ⟨_, rfl, by first | rfl | (go_simp; done) | (go_simp; rfl)⟩); (case hb => exact (by (with_reducible repeat (first | apply b1 | apply b2 | apply b3)); exact IT344.out)); (case h0 => first | (with_reducible decide) | exact of_decide_eq_true (by first | (with_reducible assumption) | assumption)); (case h1 => exact of_decide_eq_true (by first | (with_reducible assumption) | assumption)); (case h2 => exact of_decide_eq_true (by first | (with_reducible assumption) | assumption)); intro w89 hbox hk; replace HO_18 := Aside0.mk (Kd.R_turned (pr HO_18) (by (with_reducible repeat (first | apply b1 | apply b2 | apply b3)); exact IT344.out) hk); replace HO_22 := Aside0.mk (Kd.R_turned (pr HO_22) (by (with_reducible repeat (first | apply b1 | apply b2 | apply b3)); exact IT344.out) hk); replace IT344 := Aside0.mk (hbox); replace HB := Aside0.mk (below_turned bw GE344.out hk); clear hbox hk; have p87 : 0 ≤ (x345000_1 : Int) := of_decide_eq_true (by first | (with_reducible assumption) | assumption); have q87 : x345000_1 < (t294.size : Int) := of_decide_eq_true (by first | (with_reducible assumption) | assumption); have hx87 := bt_at t294 x345000_1; replace p87 := eq_true p87; replace q87 := eq_true q87))
      go_roundg k1
      case measure => have := HK1.out; omega
      case rel => exact ⟨(x42_1), (wrap64 (x43_1 + 1)), (x345000_1 + 1), (rs), (rs), H', ⟨by have := HK1.out; omega⟩, ⟨pr HO_18⟩, ⟨pr HO_22⟩, ⟨by (with_reducible repeat (first | apply b1 | apply b2 | apply b3)); exact IT344.out⟩, ⟨bw⟩⟩
     rw [if_neg c88] at H
     have c88b0 : ((bt t294 x345000_1) == 62) = false := beq_eq_false_iff_ne.mpr c88
     have c88b1 : ((bt t294 x345000_1) != 62) = true := bne_iff_ne.mpr c88
     have H' := Aside0.mk H
     clear H
     go_wp2_with (first | ((with_reducible refine gd 324 ?_); (try (refine gate_guard (by rfl) ?_; dsimp only)); refine next_event ?hg (N := 324) ?hd (g := gb344) (s := t294) (p := x345000_1) ?hx ?hb ?h0 ?h1 ?h2 ?_; (case hd => rfl); (case hg => rfl); (case hx => exact ⟨_, rfl, by first | rfl | (go_simp; done) | (go_simp; rfl)⟩); (case hb => exact (by (with_reducible repeat (first | apply b1 | apply b2 | apply b3)); exact IT344.out)); (case h0 => first | (with_reducible decide) | exact of_decide_eq_true (by first | (with_reducible assumption) | assumption)); (case h1 => exact of_decide_eq_true (by first | (with_reducible assumption) | assumption)); (case h2 => exact of_decide_eq_true (by first | (with_reducible assumption) | assumption)); intro w90 hbox hk; replace HO_18 := Aside0.mk (Kd.R_turned (pr HO_18) (by (with_reducible repeat (first | apply b1 | apply b2 | apply b3)); exact IT344.out) hk); replace HO_22 := Aside0.mk (Kd.R_turned (pr HO_22) (by (with_reducible repeat (first | apply b1 | apply b2 | apply b3)); exact IT344.out) hk); replace IT344 := Aside0.mk (hbox); replace HB := Aside0.mk (below_turned bw GE344.out hk); clear hbox hk; have p87 : 0 ≤ (x345000_1 : Int) := of_decide_eq_true (by first | (with_reducible assumption) | assumption); have q87 : x345000_1 < (t294.size : Int) := of_decide_eq_true (by first | (with_reducible assumption) | assumption); have hx87 := bt_at t294 x345000_1; replace p87 := eq_true p87; replace q87 := eq_true q87))
     go_roundg k1
     case measure => have := HK1.out; omega
     case rel => exact ⟨(wrap64 (x42_1 + x43_1)), (x43_1), (x345000_1 + 1), (rs), (rs), H', ⟨by have := HK1.out; omega⟩, ⟨pr HO_18⟩, ⟨pr HO_22⟩, ⟨by (with_reducible repeat (first | apply b1 | apply b2 | apply b3)); exact IT344.out⟩, ⟨bw⟩⟩
    rw [if_neg c83] at H
    have c83b0 := decide_eq_false c83
    clear c83
    (first | rw [c83b0] | rw [@decide_eq_true _ _ (of_decide_eq_true c83b1)] | rw [@decide_eq_false _ _ (of_decide_eq_false c83b1)] | (simp only [i64_w, i32_w]; rw [c83b0]) | skip)
    have H' := Aside0.mk H
    clear H
    go_wp2_with (first | ((with_reducible refine gd 324 ?_); (try (refine gate_guard (by rfl) ?_; dsimp only)); refine next_end_event ?hg (N := 324) ?hd (g := gb344) (s := t294) (p := x345000_1) ?hx ?hb ?h1 ?_; (case hd => rfl); (case hg => rfl); (case hx => exact ⟨_, rfl, by first | rfl | (go_simp; done) | (go_simp; rfl)⟩); (case hb => exact (by (with_reducible repeat (first | apply b1 | apply b2 | apply b3)); exact IT344.out)); (case h1 => exact of_decide_eq_false (by first | (with_reducible assumption) | assumption))) | ((with_reducible refine gd 337 ?_); (try (refine gate_guard (by rfl) ?_; dsimp only)); refine iter_event ?hg (N := 337) ?hd (s := t294) ?hx Tryz.underlying9 ?_; (case hd => rfl); (case hg => rfl); (case hx => exact ⟨_, rfl, by first | rfl | (go_simp; done) | (go_simp; rfl)⟩); intro gb345 hg w91 hbox hb; replace HO_18 := Aside0.mk (Kd.R_below (pr HO_18) hb); replace HO_22 := Aside0.mk (Kd.R_below (pr HO_22) hb); have IT345 := Aside0.mk (hbox); have GW345 := gs hg; have GE345 := gs hg; replace HB := bs hb; clear hb hbox hg))
    (try simp only [Act.put, List.setIfInBounds_toArray, List.set_cons_zero, List.set_cons_succ])
    go_loopg [45] k1 (fun kq v45 w' => ∃ (x45_2 : ByteArray) (x346000_2 : Int), v45 = .string x45_2 ∧ Aside0 (laws_FnRowsRest.l1 kq l1 t294 t295 t299 t303 t307 t315 t323 t327 t331 t335 x42_1 x43_1 x45_2 x346000_2 t294 = some r) ∧ Aside0 (kq ≤ k1) ∧ Aside0 (Kd.R (Kd.int .i64) 3 w' w.heap.size (fun k_ => some k_ ≠ ((.slice Ao77 t315.length co77) : Value).ownBlock) (.slice Ao75 t307.length co75) t307) ∧ Aside0 (Kd.R (Kd.int .i64) 3 w' w.heap.size (fun k_ => some k_ ≠ ((.slice Ao75 t307.length co75) : Value).ownBlock) (.slice Ao77 t315.length co77) t315) ∧ Aside0 (w'.heap[gb345]? = some (.stringIter t294 (x346000_2 : Int).toNat)) ∧ Aside0 (Below w.heap.size w w'))
    case atStart => exact ⟨((⟨#[]⟩ : ByteArray)), (0), (rs), H', ⟨Nat.le_refl _⟩, ⟨pr HO_18⟩, ⟨pr HO_22⟩, ⟨by (with_reducible repeat (first | apply b1 | apply b2 | apply b3)); exact IT345.out⟩, ⟨bw⟩⟩
    case round =>
     clear H'
     repeat (first|clear p6|clear p8|clear q8|clear hx8|clear p64|clear c83|clear c83b0|clear c84|clear c84b0|clear c84b1|clear c85|clear c85b0|clear c85b1|clear c86|clear c86b0|clear p87|clear q87|clear hx87|clear c88|clear c88b0|clear c88b1)
     obtain ⟨x45_2, x346000_2, rfl, HA, HK2, HO_18, HO_22, IT345, HB⟩ := hrel
     cases gk with
     | zero => exact absurd HA.out (by simp [laws_FnRowsRest.l1])
     | succ k2 =>
      have H := HA.out
      clear HA
      simp only [laws_FnRowsRest.l1] at H
      by_cases c92 : x346000_2 < (t294.size : Int)
      ·rw [if_pos c92] at H
       have c92b0 := decide_eq_true c92
       clear c92
       replace H := oi H
       obtain ⟨c93, H⟩ := H
       have c93b0 := eq_true c93
       have c93b1 := decide_eq_true c93
       clear c93
       replace H := oi H
       obtain ⟨c94, H⟩ := H
       have c94b0 := eq_true c94
       have c94b1 := decide_eq_true c94
       clear c94
       by_cases c95 : x346000_2 < (wrap64 ((t294.size : Int) - x43_1))
       ·rw [if_pos c95] at H
        have c95b0 := decide_eq_true c95
        clear c95
        replace H := oi H
        obtain ⟨c96, H⟩ := H
        have c96b0 := eq_true c96
        have c96b1 := decide_eq_true c96
        try have c96b2 : (9223372036854775807 < x45_2.size + 1) = False := eq_false (Nat.not_lt.2 c96)
        have H' := Aside0.mk H
        clear H
        go_wp2_with (first | ((with_reducible refine gd 338 ?_); (try (refine gate_guard (by rfl) ?_; dsimp only)); refine next_event ?hg (N := 338) ?hd (g := gb345) (s := t294) (p := x346000_2) ?hx ?hb ?h0 ?h1 ?h2 ?_; (case hd => rfl); (case hg => rfl); (case hx => exact ⟨_, rfl, by first | rfl | (go_simp; done) | (go_simp; rfl)⟩); (case hb => exact (by (with_reducible repeat (first | apply b1 | apply b2 | apply b3)); exact IT345.out)); (case h0 => first | (with_reducible decide) | exact of_decide_eq_true (by first | (with_reducible assumption) | assumption)); (case h1 => exact of_decide_eq_true (by first | (with_reducible assumption) | assumption)); (case h2 => exact of_decide_eq_true (by first | (with_reducible assumption) | assumption)); intro w97 hbox hk; replace HO_18 := Aside0.mk (Kd.R_turned (pr HO_18) (by (with_reducible repeat (first | apply b1 | apply b2 | apply b3)); exact IT345.out) hk); replace HO_22 := Aside0.mk (Kd.R_turned (pr HO_22) (by (with_reducible repeat (first | apply b1 | apply b2 | apply b3)); exact IT345.out) hk); replace IT345 := Aside0.mk (hbox); replace HB := Aside0.mk (below_turned bw GE345.out hk); clear hbox hk))
        go_roundg k2
        case measure => have := HK1.out; have := HK2.out; omega
        case rel => exact ⟨(x45_2 ++ (⟨#[60]⟩ : ByteArray)), (x346000_2 + 1), (rs), H', ⟨by have := HK1.out; have := HK2.out; omega⟩, ⟨pr HO_18⟩, ⟨pr HO_22⟩, ⟨by (with_reducible repeat (first | apply b1 | apply b2 | apply b3)); exact IT345.out⟩, ⟨bw⟩⟩
       rw [if_neg c95] at H
       have c95b0 := decide_eq_false c95
       clear c95
       replace H := oi H
       obtain ⟨c98, H⟩ := H
       have c98b0 := eq_true c98
       have c98b1 := decide_eq_true c98
       try have c98b2 : (9223372036854775807 < x45_2.size + 1) = False := eq_false (Nat.not_lt.2 c98)
       have H' := Aside0.mk H
       clear H
       go_wp2_with (first | ((with_reducible refine gd 338 ?_); (try (refine gate_guard (by rfl) ?_; dsimp only)); refine next_event ?hg (N := 338) ?hd (g := gb345) (s := t294) (p := x346000_2) ?hx ?hb ?h0 ?h1 ?h2 ?_; (case hd => rfl); (case hg => rfl); (case hx => exact ⟨_, rfl, by first | rfl | (go_simp; done) | (go_simp; rfl)⟩); (case hb => exact (by (with_reducible repeat (first | apply b1 | apply b2 | apply b3)); exact IT345.out)); (case h0 => first | (with_reducible decide) | exact of_decide_eq_true (by first | (with_reducible assumption) | assumption)); (case h1 => exact of_decide_eq_true (by first | (with_reducible assumption) | assumption)); (case h2 => exact of_decide_eq_true (by first | (with_reducible assumption) | assumption)); intro w99 hbox hk; replace HO_18 := Aside0.mk (Kd.R_turned (pr HO_18) (by (with_reducible repeat (first | apply b1 | apply b2 | apply b3)); exact IT345.out) hk); replace HO_22 := Aside0.mk (Kd.R_turned (pr HO_22) (by (with_reducible repeat (first | apply b1 | apply b2 | apply b3)); exact IT345.out) hk); replace IT345 := Aside0.mk (hbox); replace HB := Aside0.mk (below_turned bw GE345.out hk); clear hbox hk))
       go_roundg k2
       case measure => have := HK1.out; have := HK2.out; omega
       case rel => exact ⟨(x45_2 ++ (⟨#[62]⟩ : ByteArray)), (x346000_2 + 1), (rs), H', ⟨by have := HK1.out; have := HK2.out; omega⟩, ⟨pr HO_18⟩, ⟨pr HO_22⟩, ⟨by (with_reducible repeat (first | apply b1 | apply b2 | apply b3)); exact IT345.out⟩, ⟨bw⟩⟩
      rw [if_neg c92] at H
      have c92b0 := decide_eq_false c92
      clear c92
      have HC100 := Aside0.mk H
      clear H
      go_upto_region 39 with (first | ((with_reducible refine gd 338 ?_); (try (refine gate_guard (by rfl) ?_; dsimp only)); refine next_end_event ?hg (N := 338) ?hd (g := gb345) (s := t294) (p := x346000_2) ?hx ?hb ?h1 ?_; (case hd => rfl); (case hg => rfl); (case hx => exact ⟨_, rfl, by first | rfl | (go_simp; done) | (go_simp; rfl)⟩); (case hb => exact (by (with_reducible repeat (first | apply b1 | apply b2 | apply b3)); exact IT345.out)); (case h1 => exact of_decide_eq_false (by first | (with_reducible assumption) | assumption))))
      (try simp only [Act.put, List.setIfInBounds_toArray, List.set_cons_zero, List.set_cons_succ])
      go_cut [291, 292, 293, 294, 295, 296, 297, 298, 299, 300, 301, 302, 303, 304, 305, 306, 307, 308, 309, 310, 311, 312, 313, 314, 315, 316, 317, 318, 319, 320, 321, 325, 330, 339, 340, 341, 342, 343, 344, 345, 346, 347, 348, 349, 350, 407] from 9999 (fun _ _ _ _ _ _ _ _ _ _ _ _ _ _ _ _ _ _ _ _ _ _ _ _ _ _ _ _ _ _ _ _ _ _ _ _ _ _ _ _ _ _ _ _ _ v407 wc => ∃ (kq : Nat) (x407_99 : Bool), v407 = .bool x407_99 ∧ Aside0 (laws_FnRowsRest.j2 kq l1 t294 t295 t315 t323 t331 t335 x407_99 = some r) ∧ Aside0 (kq ≤ k2) ∧ Aside0 (Kd.R (Kd.int .i64) 3 wc w.heap.size (fun _ => True) (.slice Ao77 t315.length co77) t315) ∧ Aside0 (Below w.heap.size w wc))
      case first =>
       rename_i J2_ K2_ hJ2_ hM2_
       have H := HC100.out
       clear HC100
       replace H := ofr HRT H
       obtain ⟨c101, H⟩ := H
       have c101b0 : (t299.toList == x45_2.toList) = true := beq_iff_eq.mpr c101
       have c101b1 : (t299.toList != x45_2.toList) = false := bne_eq_false_iff_eq.mpr c101
       clear c101
       (first | rw [c101b0] | rw [@decide_eq_true _ _ (of_decide_eq_true c101b1)] | rw [@decide_eq_false _ _ (of_decide_eq_false c101b1)] | (simp only [i64_w, i32_w]; rw [c101b0]) | skip)
       replace H := ofr HRT H
       obtain ⟨c102, H⟩ := H
       have c102b0 : (t303 == x42_1) = true := beq_iff_eq.mpr c102
       have c102b1 : (t303 != x42_1) = false := bne_eq_false_iff_eq.mpr c102
       clear c102
       replace H := ob H
       obtain ⟨t346, A103, H⟩ := H
       (try dsimp only at H)
       replace H := ofr HRT H
       obtain ⟨c104, H⟩ := H
       have c104b0 : (t346 == (wrap64 (2 * t303))) = true := beq_iff_eq.mpr c104
       have c104b1 : (t346 != (wrap64 (2 * t303))) = false := bne_eq_false_iff_eq.mpr c104
       clear c104
       replace H := ofl HRT H
       obtain ⟨c105, H⟩ := H
       have c105b0 : ((t295 == 0) != t327) = false := by simpa using c105
       (try (have c105b1 : decide ((t295 == 0) = t327) = true := by simpa using c105))
       (try (have c105b2 : ((t295 == 0) == t327) = true := by simpa using c105))
       clear c105
       replace H := ofl HRT H
       obtain ⟨c106, H⟩ := H
       have c106b0 : (t327 != ((t315.length : Int) == 0)) = false := by simpa using c106
       (try (have c106b1 : decide (t327 = ((t315.length : Int) == 0)) = true := by simpa using c106))
       (try (have c106b2 : (t327 == ((t315.length : Int) == 0)) = true := by simpa using c106))
       clear c106
       replace H := ofl HRT H
       obtain ⟨c107, H⟩ := H
       have c107b0 : (t327 != (t294.toList == t299.toList)) = false := by simpa using c107
       (try (have c107b1 : decide (t327 = (t294.toList == t299.toList)) = true := by simpa using c107))
       (try (have c107b2 : (t327 == (t294.toList == t299.toList)) = true := by simpa using c107))
       clear c107
       by_cases c108 : t295 > (wrap64 ((t294.size : Int) - 1))
       ·rw [if_pos c108] at H
        have c108b0 := decide_eq_true c108
        clear c108
        replace H := ofl HRT H
        obtain ⟨c109, H⟩ := H
        have c109b0 := decide_eq_false c109
        have c109b1 : decide (1 < t294.size) = false := decide_eq_false (by omega)
        clear c109
        replace H := ofl HRT H
        obtain ⟨c110, H⟩ := H
        have c110b0 := decide_eq_false c110
        clear c110
        replace H := ob H
        obtain ⟨t347, A111, H⟩ := H
        (try dsimp only at H)
        have H' := Aside0.mk H
        clear H
        go_wp2_with (first | (go_at_call 27; (with_reducible refine (laws_mSum.calls k2 _ _ t307 t346 _ ?_ ?_ A103.out).mono ?_); repeat (first | exact (Kd.R_reads' HO_18.out).2.2 | (with_reducible refine Kd.C_alloc ?_ _) | (with_reducible refine Kd.C_drewN ?_ _) | (with_reducible refine Kd.C_drew ?_)); exact (Kd.R_reads' HO_18.out).2.1; rintro e w' ⟨rfl, ⟨nd, rfl⟩⟩) | (go_at_call 28; (with_reducible refine (laws_mRises.calls k2 _ _ t315 t347 _ ?_ ?_ A111.out).mono ?_); repeat (first | exact (Kd.R_reads' HO_22.out).2.2 | (with_reducible refine Kd.C_alloc ?_ _) | (with_reducible refine Kd.C_drewN ?_ _) | (with_reducible refine Kd.C_drew ?_)); exact (Kd.R_reads' HO_22.out).2.1; rintro e w' ⟨rfl, ⟨nd, rfl⟩⟩))
        go_meet
        case rel => exact ⟨_, (!t347), (rs), H', ⟨by have := HK1.out; have := HK2.out; first | omega | exact Nat.le_refl _⟩, ⟨by (with_reducible repeat (first | apply Kd.R_alloc | apply Kd.R_drewN | apply Kd.R_drew)); exact Kd.R_mono HO_22.out (fun _ hk => trivial)⟩, ⟨bw⟩⟩
       rw [if_neg c108] at H
       have c108b0 := decide_eq_false c108
       clear c108
       replace H := ofl HRT H
       obtain ⟨c112, H⟩ := H
       have c112b0 := decide_eq_false c112
       clear c112
       replace H := ob H
       obtain ⟨t348, A113, H⟩ := H
       (try dsimp only at H)
       have H' := Aside0.mk H
       clear H
       go_wp2_with (first | (go_at_call 27; (with_reducible refine (laws_mSum.calls k2 _ _ t307 t346 _ ?_ ?_ A103.out).mono ?_); repeat (first | exact (Kd.R_reads' HO_18.out).2.2 | (with_reducible refine Kd.C_alloc ?_ _) | (with_reducible refine Kd.C_drewN ?_ _) | (with_reducible refine Kd.C_drew ?_)); exact (Kd.R_reads' HO_18.out).2.1; rintro e w' ⟨rfl, ⟨nd, rfl⟩⟩) | (go_at_call 28; (with_reducible refine (laws_mRises.calls k2 _ _ t315 t348 _ ?_ ?_ A113.out).mono ?_); repeat (first | exact (Kd.R_reads' HO_22.out).2.2 | (with_reducible refine Kd.C_alloc ?_ _) | (with_reducible refine Kd.C_drewN ?_ _) | (with_reducible refine Kd.C_drew ?_)); exact (Kd.R_reads' HO_22.out).2.1; rintro e w' ⟨rfl, ⟨nd, rfl⟩⟩))
       go_meet
       case rel => exact ⟨_, (!t348), (rs), H', ⟨by have := HK1.out; have := HK2.out; first | omega | exact Nat.le_refl _⟩, ⟨by (with_reducible repeat (first | apply Kd.R_alloc | apply Kd.R_drewN | apply Kd.R_drew)); exact Kd.R_mono HO_22.out (fun _ hk => trivial)⟩, ⟨bw⟩⟩
      case rest =>
       clear HC100
       repeat (first|clear c92|clear c92b0|clear c93|clear c93b0|clear c93b1|clear c94|clear c94b0|clear c94b1|clear c95|clear c95b0|clear c96|clear c96b0|clear c96b1|clear c96b2|clear c98|clear c98b0|clear c98b1|clear c98b2|clear c101|clear c101b0|clear c101b1|clear c102|clear c102b0|clear c102b1|clear c104|clear c104b0|clear c104b1|clear c105|clear c105b0|clear c105b1|clear c105b2|clear c106|clear c106b0|clear c106b1|clear c106b2|clear c107|clear c107b0|clear c107b1|clear c107b2|clear c108|clear c108b0|clear c109|clear c109b0|clear c109b1|clear c110|clear c110b0|clear c112|clear c112b0)
       obtain ⟨kq, x407_99, rfl, HA, HJ99, HO_22, HB⟩ := hcut
       go_step
       exact laws_FnRowsRest.r2 HRT HMM hM1_ hJ1_ HO310 HO314 HO318 HO322 u324 HK1 u338 HO_18 HK2 (by assumption) HA HJ99 HO_22 HB
 replace c81 := Bool.eq_false_iff.mpr c81
 subst c81
 rw [if_neg (show ¬ (false = true) by decide)] at H
 have H' := Aside0.mk H
 clear H
 go_wp2
 go_meet
 case rel => exact ⟨_, H', ⟨by first | omega | exact Nat.le_refl _⟩, ⟨bw⟩⟩

end Go.Proofs.YtolalphffodkdaaGreatDoor.PFnRowsRest
