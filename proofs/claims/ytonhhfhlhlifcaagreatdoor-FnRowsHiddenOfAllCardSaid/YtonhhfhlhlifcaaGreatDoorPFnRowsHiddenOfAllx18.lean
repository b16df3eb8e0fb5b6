-- Laid by xprint, a program of this session that runs over the kit's print.
import Derived.Test.YtonhhfhlhlifcaaGreatDoorPFnRowsHiddenOfAllx17
namespace Go.Proofs.YtonhhfhlhlifcaaGreatDoor.PFnRowsHiddenOfAll
open Go.RowKit Go.Proofs.YtonhhfhlhlifcaaGreatDoorW.PrintWords Go.Proofs.YtonhhfhlhlifcaaGreatDoorW.PrintLast Go.Proofs.YtonhhfhlhlifcaaGreatDoorW.PrintMore Go.Proofs.YtonhhfhlhlifcaaGreatDoor.Sq
attribute [local go_sem] max2_int min2_int max_two min_two max_three min_three max_four min_four   -- for this text's walks alone
set_option linter.unusedVariables false
set_option linter.unusedSimpArgs false

attribute [local go_sem high] eqA26
-- the words again, with a search that unfolds nothing first
section
variable {w W W0 W1 W2 : World} {g q : Nat} {o : Obj}
theorem bw (h : Below w.heap.size w W := by repeat (first | (with_reducible first | exact HB.out | apply below_alloc | apply pw_below_drewN | apply below_drew1 | refine below_set ?_ (Aside0.out (by first | (with_reducible assumption) | assumption))) | exact HB.out)) : Below w.heap.size w W := h
theorem bs (hb : Below W.heap.size W W2) (h : Below w.heap.size w W := by repeat (first | (with_reducible first | exact HB.out | apply below_alloc | apply pw_below_drewN | apply below_drew1 | refine below_set ?_ (Aside0.out (by first | (with_reducible assumption) | assumption))) | exact HB.out)) : Aside0 (Below w.heap.size w W2) := ⟨below_step h hb⟩
theorem gs (hg : g = W.heap.size) (h : Below w.heap.size w W := by repeat (first | (with_reducible first | exact HB.out | apply below_alloc | apply pw_below_drewN | apply below_drew1 | refine below_set ?_ (Aside0.out (by first | (with_reducible assumption) | assumption))) | exact HB.out)) : Aside0 (w.heap.size ≤ g) := ⟨by rw [hg]; exact below_size h⟩
theorem pk (_h : Aside0 (W0.heap[g]? = some o)) (h : W.heap[g]? = some o := by (with_reducible repeat (first | refine blk_drewN ?_ _ | refine blk_drew ?_ | refine blk_alloc ?_ _)); exact Aside0.out (by first | (with_reducible assumption) | assumption)) : W.heap[g]? = some o := h
theorem nk (_h : Aside0 (W0.heap[g]? = some o)) (hb : Below W1.heap.size W1 W2) (h : W1.heap[g]? = some o := by (with_reducible repeat (first | refine blk_drewN ?_ _ | refine blk_drew ?_ | refine blk_alloc ?_ _)); exact Aside0.out (by first | (with_reducible assumption) | assumption)) : Aside0 (W2.heap[g]? = some o) := ⟨blk_below h hb⟩
theorem nl (_h : Aside0 (W0.heap[g]? = some o)) (hg : q = W.heap.size) (h : W.heap[g]? = some o := by (with_reducible repeat (first | refine blk_drewN ?_ _ | refine blk_drew ?_ | refine blk_alloc ?_ _)); exact Aside0.out (by first | (with_reducible assumption) | assumption)) : Aside0 (g ≠ q) := ⟨by rw [hg]; exact Nat.ne_of_lt (blk_lt h)⟩
theorem ng (_h : Aside0 (W0.heap[g]? = some o)) (hg : q = W.heap.size) (h : W.heap[g]? = some o := by (with_reducible repeat (first | refine blk_drewN ?_ _ | refine blk_drew ?_ | refine blk_alloc ?_ _)); exact Aside0.out (by first | (with_reducible assumption) | assumption)) : Aside0 (q ≠ g) := ⟨by rw [hg]; exact Nat.ne_of_gt (blk_lt h)⟩
theorem pr {α : Type} {d : Kd α} {e base : Nat} {ok : Nat → Prop} {v : Value} {xs : List α} (_h : Aside0 (Kd.R d e W0 base ok v xs)) (h : Kd.R d e W base ok v xs := by (with_reducible repeat (first | apply Kd.R_alloc | apply Kd.R_drewN | apply Kd.R_drew)); exact Aside0.out (by first | (with_reducible assumption) | assumption)) : Kd.R d e W base ok v xs := h
theorem pf (_h : Aside0 (W0.heap[g]? = some o)) (h : W.heap[g]? = some o := by (with_reducible repeat (first | refine blk_drewN ?_ _ | refine blk_drew ?_ | refine blk_alloc ?_ _)); (repeat (refine blk_far ?_ (Aside0.out (by first | (with_reducible assumption) | assumption)) _; (with_reducible repeat (first | refine blk_drewN ?_ _ | refine blk_drew ?_ | refine blk_alloc ?_ _)))); exact Aside0.out (by first | (with_reducible assumption) | assumption)) : W.heap[g]? = some o := h
theorem nf (_h : Aside0 (W0.heap[g]? = some o)) (hb : Below W1.heap.size W1 W2) (h : W1.heap[g]? = some o := by (with_reducible repeat (first | refine blk_drewN ?_ _ | refine blk_drew ?_ | refine blk_alloc ?_ _)); (repeat (refine blk_far ?_ (Aside0.out (by first | (with_reducible assumption) | assumption)) _; (with_reducible repeat (first | refine blk_drewN ?_ _ | refine blk_drew ?_ | refine blk_alloc ?_ _)))); exact Aside0.out (by first | (with_reducible assumption) | assumption)) : Aside0 (W2.heap[g]? = some o) := ⟨blk_below h hb⟩
end
section
variable {w W W0 W1 W2 : World} {g q : Nat} {o : Obj}
variable {α : Type} {d : Kd α} {e base t i j k l : Nat} {ok : Nat → Prop} {v u1 u2 u3 u4 : Value} {xs : List α} {cs : Array Value}
theorem qf (_h : Aside0 (Kd.R d e W0 base ok v xs)) (h : Kd.R d e W base ok v xs := by (with_reducible repeat (first | apply Kd.R_alloc | apply Kd.R_drewN | apply Kd.R_drew)); first | exact rf2_ (by first | (with_reducible assumption) | assumption) (by first | (with_reducible assumption) | assumption) (by decide) | exact rf4_ (by first | (with_reducible assumption) | assumption) (by first | (with_reducible assumption) | assumption) (by decide) | exact rf1_ (by first | (with_reducible assumption) | assumption) (by first | (with_reducible assumption) | assumption) (by decide)) : Kd.R d e W base ok v xs := h
end
section
variable {w W W0 W1 W2 : World} {g q : Nat} {o : Obj}
theorem cb {α : Type} {K : Kd α} {A : Option Addr} {n : Nat} {l : List α} (_h : Aside0 (Kd.C K w A n l)) (h : Kd.C K W A n l := by repeat (first | exact (Kd.C_below (Aside0.out (by first | (with_reducible assumption) | assumption)) (Aside0.out (by first | (with_reducible assumption) | assumption))) | (with_reducible refine Kd.C_alloc ?_ _) | (with_reducible refine Kd.C_drewN ?_ _) | (with_reducible refine Kd.C_drew ?_))) : Kd.C K W A n l := h
end
section
variable {P : Program} {md : Region.Mode} {ops : Array Oper} {Q : Exit → Act → World → Prop} {S : World → Prop} {ds : List Nat}
theorem pu {T : Bool × List (List Nat × List Nat)} (i : Nat) (N : Option Tmp) {oi : Oper} {v : Value} {fuel : Nat} {l : Array Bool} {a : Act} {w : World} (l' : Array Bool) {a' : Act} (h : wpAnyLast P md ops Q S ds fuel l' a' w) (hT : Aside0 (rtab md ops = T) := by first | (with_reducible assumption) | assumption) (hi : ops[i]? = some oi := by rfl) (hN : oi.dst = N := by rfl)
    (hc : anyT T l.toList l'.toList i = true := by kernel_rfl) (hQ : ∀ c a w, Q (.panic c) (a.put oi.dst v) w → Q (.panic c) a w := by exact fun _ _ _ h => h) (hq : Region.wanted oi (yielded ops a.tmps) = true ∧ ∀ w' : World, (execOp a.eval oi).run P w' = .ok (.value v) w' := by exact ⟨by rfl, by intro w'; go_simp; with_reducible rfl⟩)
    (ha : a.put N v = a' := by simp only [Act.put, List.setIfInBounds_toArray, List.set_cons_zero, List.set_cons_succ, i64_w, i32_w]; rfl) : wpAnyLast P md ops Q S ds (fuel + 1) l a w := by
  exact pure_ l' hi hN (any_of hT.out hc) hQ (Or.inl hq) ha h
end
section
variable {α β : Type} {w W W0 W1 W2 : World} {d : Kd α} {f : Kd β} {e e2 base base2 g n c t i j k : Nat} {ok ok2 : Nat → Prop} {v u u1 u2 u3 : Value} {xs : List α} {ys : List β} {A : Option Addr} {row : Option Nat} {cs : Array Value}
theorem rl (_h : Aside0 (Kd.R d e W0 base ok v xs)) (hb : Below W1.heap.size W1 W2) (h : Kd.R d e W1 base ok v xs := by (with_reducible repeat (first | apply Kd.R_alloc | apply Kd.R_drewN | apply Kd.R_drew)); exact Aside0.out (by first | (with_reducible assumption) | assumption)) : Aside0 (Kd.R d e W2 base ok v xs) := ⟨Kd.R_below h hb⟩
theorem re (_h : Aside0 (Kd.R d e W0 base ok v xs)) (ho : Kd.R f e2 W2 W1.heap.size ok2 u ys) (hb : Below W1.heap.size W1 W2) (h : Kd.R d e W1 base ok v xs := by (with_reducible repeat (first | apply Kd.R_alloc | apply Kd.R_drewN | apply Kd.R_drew)); exact Aside0.out (by first | (with_reducible assumption) | assumption)) : Aside0 (Kd.R d e W2 base (fun k => ok k ∧ some k ≠ u.ownBlock) v xs) := ⟨Kd.R_elder' h (Kd.R_base ho) hb⟩
theorem rr (_h : Aside0 (Kd.R d e W0 base ok (.slice A n c) xs)) (h : Kd.C d W A xs.length xs := by repeat (first | exact (Kd.R_reads' (Aside0.out (by first | (with_reducible assumption) | assumption))).2.2 | (with_reducible refine Kd.C_alloc ?_ _) | (with_reducible refine Kd.C_drewN ?_ _) | (with_reducible refine Kd.C_drew ?_))) : Kd.C d W A xs.length xs := h
theorem cr (_h : Aside0 (Kd.C d W0 A n xs)) (h : Kd.C d W A n xs := by repeat (first | exact Aside0.out (by first | (with_reducible assumption) | assumption) | (with_reducible refine Kd.C_alloc ?_ _) | (with_reducible refine Kd.C_drewN ?_ _) | (with_reducible refine Kd.C_drew ?_))) : Kd.C d W A n xs := h
theorem qf3 (_h : Aside0 (Kd.R d e W0 base ok v xs)) (h : Kd.R d e W base ok v xs := by (with_reducible repeat (first | apply Kd.R_alloc | apply Kd.R_drewN | apply Kd.R_drew)); exact rf3_ (by first | (with_reducible assumption) | assumption) (by first | (with_reducible assumption) | assumption) (by decide)) : Kd.R d e W base ok v xs := h
theorem prN (_h : Aside0 (Kd.N d e W0 base ok v xs)) (h : Kd.N d e W base ok v xs := by (with_reducible repeat (first | apply Kd.N_alloc | apply Kd.N_drewN | apply Kd.N_drew)); exact Aside0.out (by first | (with_reducible assumption) | assumption)) : Kd.N d e W base ok v xs := h
theorem hkk (h : KeepBut w W g row := by repeat (first | (with_reducible first | exact HK.out | apply KeepBut.set_ | apply keep_drewN | apply keep_drew | apply keep_alloc | refine keep_far ?_ (Aside0.out (by first | (with_reducible assumption) | assumption)) _) | exact HK.out)) : KeepBut w W g row := h
end
section
variable {w W W0 W1 W2 : World} {g q t i : Nat} {o o0 : Obj} {cs cs' : Array Value} {u a b c d : Value} {ab : Nat × Nat} {row : Option Nat}
theorem pz (_h : Aside0 (W0.heap[g]? = some o0)) (h : W.heap[g]? = some o := by (with_reducible repeat (first | apply b1 | apply b2 | apply b3 | apply bp | (apply bf; (case hp => first | (with_reducible assumption) | assumption)) | exact Aside0.out (by first | (with_reducible assumption) | assumption))); all_goals rfl) : W.heap[g]? = some o := h
theorem kb (hk : KeepBut W W2 g row) (_h : Aside0 (W0.heap[q]? = some o)) (nb : Aside0 (q ≠ g)) (h : W.heap[q]? = some o := by exact pf (by first | (with_reducible assumption) | assumption)) (hr : some q ≠ row := by simp) : Aside0 (W2.heap[q]? = some o) := ⟨KeepBut.blk hk h nb.out hr⟩
theorem kz (hk : KeepBut W W2 g row) (o : Obj) (_h : Aside0 (W0.heap[q]? = some o0)) (nb : Aside0 (q ≠ g)) (h : W.heap[q]? = some o := by exact pz (by first | (with_reducible assumption) | assumption)) (hr : some q ≠ row := by simp) : Aside0 (W2.heap[q]? = some o) := ⟨KeepBut.blk hk h nb.out hr⟩
theorem nn (_h : Aside0 (W0.heap[g]? = some o)) (hg : q = W.heap.size) (h : W.heap[g]? = some o := by exact pk (by first | (with_reducible assumption) | assumption)) : Aside0 (g ≠ q) ∧ Aside0 (q ≠ g) := ⟨⟨by rw [hg]; exact Nat.ne_of_lt (blk_lt h)⟩, ⟨by rw [hg]; exact Nat.ne_of_gt (blk_lt h)⟩⟩
end
section
variable {P : Program} {md : Region.Mode} {ops : Array Oper} {Q : Exit → Act → World → Prop} {S : World → Prop} {ds : List Nat}
theorem tk {T : Bool × List (List Nat × List Nat)} {B : List Nat} (i : Nat) (N : Option Tmp) {oi : Oper} {v : Value} {fuel : Nat} {l : Array Bool} {a : Act} {w : World} (l' : Array Bool) {a' : Act} (hS : S w) (h : wpAnyLast P md ops Q S ds fuel l' a' w) (hT : Aside0 (rtab md ops = T) := by first | (with_reducible assumption) | assumption) (hB : Aside0 (waitsOk T.2 B = true) := by first | (with_reducible assumption) | assumption) (hi : ops[i]? = some oi := by rfl) (hN : oi.dst = N := by rfl)
    (hc : takeW T B ds l.toList l'.toList i = true := by kernel_rfl) (hQ : ∀ c a w, Q (.panic c) (a.put oi.dst v) w → Q (.panic c) a w := by exact fun _ _ _ h => h) (hq : Region.wanted oi (yielded ops a.tmps) = true ∧ ∀ w' : World, S w' → (execOp a.eval oi).run P w' = .ok (.value v) w' := by exact ⟨by rfl, by intro w' hs_; (try dsimp only at hs_); go_simp; with_reducible rfl⟩)
    (ha : a.put N v = a' := by simp only [Act.put, List.setIfInBounds_toArray, List.set_cons_zero, List.set_cons_succ, i64_w, i32_w]; rfl) : wpAnyLast P md ops Q S ds (fuel + 1) l a w :=
  take_ l' hi hN (take_ofW hT.out hB.out hc) hQ (Or.inl hq) hS ha h
end
/-! ### laws_FnRowsHiddenOfAll: its contract -/
def cd : List Nat → Code → Code
  | [], c => c
  | 0 :: p, .seq a _ => cd p a
  | 1 :: p, .seq _ b => cd p b
  | 0 :: p, .cond _ a _ => cd p a
  | 1 :: p, .cond _ _ b => cd p b
  | 0 :: p, .block _ a => cd p a
  | 0 :: p, .loop a => cd p a
  | 0 :: p, .scope a => cd p a
  | _, c => c
/-- The code at a place of a function's body. -/
def cdd (f : Func) (p : List Nat) : Code := cd p (f.body.getD .skip)

set_option maxHeartbeats 80000000 in
set_option maxRecDepth 100000 in
theorem laws_FnRowsHiddenOfAll.r7
 (a0 : ByteArray)
 (a1 a2 a3_0 : Int)
 (A3_1 : Option Addr)
 (c3_1 : Nat)
 (l3_1 : List S26)
 (a4_0 : Int)
 (A4_1 : Option Addr)
 (c4_1 : Nat)
 (l4_1 : List S26)
 (a5_0 a5_1 a5_2 a5_3 a6_0 : Int)
 (A6_1 : Option Addr)
 (c6_1 : Nat)
 (l6_1 : List S26)
 (a7 a8_0 a8_1 a8_2 a8_3 : Int)
 (a9 : ByteArray)
 (a10 a11_0 a11_1 a11_2 a11_3 : Int)
 (r : Bool)
 (w : World)
 (HR6_1 : Aside0 (Kd.C k26 w A6_1 (List.length l6_1) l6_1))
 (HC6_1 : Aside0 (List.length l6_1 ≤ c6_1))
 (HRT : Aside0 (r = true))
 (gb374 gb375 gb376 gb377 gb378 gb379 : Nat)
 (u81 u82 u85 u86 : Value)
 (t380 : Int)
 (t381 : List S26)
 (t384 : Bool)
 (t386 : Int)
 (t387 : List S26)
 (t390 : Bool)
 (gb385 : Nat)
 (Ao37 : Option Addr)
 (co37 gb391 : Nat)
 (Ao48 : Option Addr)
 (co48 : Nat)
 (u29 u30 u31 u32 u33 u34 u35 u36 u37 u38 u39 u40 u41 u42 u43 u44 u45 u46 u47 u48 u50 u51 u52 u83 u84 u87 u88 u95 u99 u100 u101 u102 u103 u104 u105 u106 u107 u108 u109 u110 u111 u112 u113 u114 u115 u116 u117 u118 u119 u120 u121 u122 u123 u124 u125 u126 u127 u128 u129 u130 u131 u132 u133 u134 u135 u136 u137 u138 u139 u140 u141 u142 u143 u144 u145 u146 u147 u148 u149 u150 u151 u152 u153 u154 u155 u156 u157 u158 u159 u160 u161 u162 u163 u164 u165 u166 u167 u168 u169 u170 u171 u172 u173 u174 u175 u176 u177 u178 u179 u180 u181 u182 u183 u184 u185 u186 u187 u188 u189 u190 u191 u192 u193 u194 u195 u196 u197 u198 u199 u200 u201 u202 u203 u204 u205 u206 u207 u208 u209 u210 u212 u213 u214 u215 u216 u217 u219 u220 u221 u222 u223 u236 u237 u238 u239 u240 u241 u242 u243 u244 u245 u246 u255 : Value)
 (t423 : Int)
 (t424 : List S26)
 (t427 t433 t435 t436 : Bool)
 (gb428 : Nat)
 (Ao172 : Option Addr)
 (co172 gb434 : Nat)
 (u211 u218 u224 u225 u226 u227 u228 u257 u258 u259 u261 u262 u263 u264 u266 u267 u268 u59 u60 u61 u62 u63 u64 u229 u230 u231 u232 u233 u234 u235 u247 u248 u249 u250 u251 u252 u253 u254 u260 u265 u269 u270 u271 u272 u273 u274 u275 u276 u277 u278 u279 u280 u281 u282 u283 u284 u285 u286 u287 u288 u289 u290 u291 u292 u293 u294 u295 u296 u297 u298 u299 u300 u301 u302 u303 u304 u305 u306 u307 u308 u309 u311 u312 u321 u322 u326 u327 u328 u329 u330 u331 : Value)
 (t451 : Int)
 (t452 : List S26)
 (t455 : Bool)
 (t457 : Int)
 (t458 : List S26)
 (t461 : Bool)
 (t463 : Int)
 (t464 : List S26)
 (t467 : Bool)
 (t469 : Int)
 (t470 : List S26)
 (t473 t475 t476 t477 t478 : Bool)
 (gb456 : Nat)
 (Ao282 : Option Addr)
 (co282 gb462 : Nat)
 (w286 : World)
 (Ao294 : Option Addr)
 (co294 : Nat)
 (hz297 : World.cell? w286 { block := gb377, off := 0 } = some (Value.int IntKind.i64 a6_0) ∧ World.cell? w286 { block := gb377, off := 1 } = some (Value.slice A6_1 (List.length l6_1) c6_1) ∧ World.frozen? w286 { block := gb377, off := 0 } = false ∧ World.frozen? w286 { block := gb377, off := 1 } = false)
 (gb468 : Nat)
 (w299 : World)
 (NB377_468 : Aside0 (gb377 ≠ gb468))
 (Ao308 : Option Addr)
 (co308 : Nat)
 (hz309 : World.cell? w299 { block := gb377, off := 0 } = some (Value.int IntKind.i64 a6_0) ∧ World.cell? w299 { block := gb377, off := 1 } = some (Value.slice A6_1 (List.length l6_1) c6_1) ∧ World.frozen? w299 { block := gb377, off := 0 } = false ∧ World.frozen? w299 { block := gb377, off := 1 } = false)
 (gb474 : Nat)
 (Ao321 : Option Addr)
 (co321 : Nat)
 (u310 u313 u314 u315 u316 u317 u318 u319 u320 u323 u324 u325 u332 u333 u339 u345 u351 u356 u357 u358 u359 u360 u361 u364 u365 u366 u367 u374 u375 u385 u386 u401 u402 u404 u405 u24 u77 u78 u362 u363 u368 u369 u370 u371 u372 u373 u376 u377 u378 u379 u380 u381 u382 u383 u384 u412 u413 u414 u420 u421 u422 u423 u424 u425 u426 u431 u432 : Value)
 (kj351 : Nat)
 (x4_ : Act → World → Prop)
 (x5_ : ∀ (a : Act) (w_1 : World), Code.wp Tryz.prog (cdd Tryz.f3 [1, 1, 1, 1, 1, 1, 1, 1, 1, 1, 1, 1, 1, 1, 1, 1, 1, 1, 1, 1]) (bodyPost Tryz.prog Tryz.f3 fun e w' => e = Ending.returned (Value.bool r) ∧ Below (Array.size w.heap) w w') a w_1 → x4_ a w_1)
 (wc : World)
 (u387 u388 u389 u390 u391 u392 u393 u394 u395 u396 u397 u398 u399 u400 u403 u406 u407 u408 u409 u410 u411 u415 u416 u417 u418 u419 u427 u428 u429 u430 u433 u434 u435 u436 u437 u438 u439 u440 u441 u442 u443 u444 u445 u446 u447 u448 u449 u450 u451 u452 u453 u454 : Value)
 (kq : Nat)
 (x455_381 : Bool)
 (HA : Aside0 (j9 kq a7 x455_381 a6_0 l6_1 t463 t464 = some r))
 (HJ381 : Aside0 (kq ≤ kj351))
 (HO_469001 : Aside0 (Kd.R k26 26 wc (Array.size w.heap) (fun x => True) (Value.slice Ao308 (List.length t464) co308) t464))
 (BK377 : Aside0 (wc.heap[gb377]? = some (Obj.cells #[Value.int IntKind.i64 a6_0, Value.slice A6_1 (List.length l6_1) c6_1] 24)))
 (BK468 : Aside0 (wc.heap[gb468]? = some (Obj.cells #[Value.int IntKind.i64 t463, Value.slice Ao308 (List.length t464) co308] 24)))
 (HB : Aside0 (Below (Array.size w.heap) w wc)) :
 Code.wp Tryz.prog (cdd Tryz.f3 [1, 1, 1, 1, 1, 1, 1, 1, 1, 1, 1, 1, 1, 1, 1, 1, 1, 1, 1, 0, 1]) (Exit.then x4_ (bodyPost Tryz.prog Tryz.f3 fun e w' => e = Ending.returned (Value.bool r) ∧ Below (Array.size w.heap) w w')) { tmps := #[Value.string a0, Value.int IntKind.i64 a1, Value.int IntKind.i64 a2, Value.agg #[Value.int IntKind.i64 a3_0, Value.slice A3_1 (List.length l3_1) c3_1], Value.agg #[Value.int IntKind.i64 a4_0, Value.slice A4_1 (List.length l4_1) c4_1], Value.agg #[Value.int IntKind.i64 a5_0, Value.int IntKind.i64 a5_1, Value.int IntKind.i64 a5_2, Value.int IntKind.i64 a5_3], Value.agg #[Value.int IntKind.i64 a6_0, Value.slice A6_1 (List.length l6_1) c6_1], Value.int IntKind.i64 a7, Value.agg #[Value.int IntKind.i64 a8_0, Value.int IntKind.i64 a8_1, Value.int IntKind.i64 a8_2, Value.int IntKind.i64 a8_3], Value.string a9, Value.int IntKind.i64 a10, Value.agg #[Value.int IntKind.i64 a11_0, Value.int IntKind.i64 a11_1, Value.int IntKind.i64 a11_2, Value.int IntKind.i64 a11_3], undef, undef, undef, Value.pointer (some { block := gb374, off := 0 }), Value.pointer (some { block := gb375, off := 0 }), Value.pointer (some { block := gb376, off := 0 }), Value.pointer (some { block := gb377, off := 0 }), undef, Value.pointer (some { block := gb378, off := 0 }), undef, undef, Value.pointer (some { block := gb379, off := 0 }), u24, Value.pointer (some { block := gb385, off := 0 }), Value.bool t384, Value.pointer (some { block := gb391, off := 0 }), Value.bool t390, u29, u30, u31, u32, u33, u34, u35, u36, u37, u38, u39, u40, u41, u42, u43, u44, u45, u46, u47, u48, undef, u50, u51, u52, Value.pointer (some { block := gb428, off := 0 }), Value.bool t427, Value.pointer (some { block := gb434, off := 0 }), Value.bool t433, Value.bool t435, Value.bool t436, u59, u60, u61, u62, u63, u64, Value.pointer (some { block := gb456, off := 0 }), Value.bool t455, Value.pointer (some { block := gb462, off := 0 }), Value.bool t461, Value.pointer (some { block := gb468, off := 0 }), Value.bool t467, Value.pointer (some { block := gb474, off := 0 }), Value.bool t473, Value.bool t475, Value.bool t476, Value.bool t477, Value.bool t478, u77, u78, undef, undef, u81, u82, u83, u84, u85, u86, u87, u88, Value.tuple #[Value.agg #[Value.int IntKind.i64 t380, Value.slice Ao37 (List.length t381) co37], Value.bool t384], Value.string a0, Value.int IntKind.i64 a1, Value.int IntKind.i64 a2, Value.tuple #[Value.agg #[Value.int IntKind.i64 t380, Value.slice Ao37 (List.length t381) co37], Value.bool t384], Value.agg #[Value.int IntKind.i64 t380, Value.slice Ao37 (List.length t381) co37], u95, Value.tuple #[Value.agg #[Value.int IntKind.i64 t386, Value.slice Ao48 (List.length t387) co48], Value.bool t390], Value.string a0, Value.int IntKind.i64 a1, u99, u100, u101, u102, u103, u104, u105, u106, u107, u108, u109, u110, u111, u112, u113, u114, u115, u116, u117, u118, u119, u120, u121, u122, u123, u124, u125, u126, u127, u128, u129, u130, u131, u132, u133, u134, u135, u136, u137, u138, u139, u140, u141, u142, u143, u144, u145, u146, u147, u148, u149, u150, u151, u152, u153, u154, u155, u156, u157, u158, u159, u160, u161, u162, u163, u164, u165, u166, u167, u168, u169, u170, u171, u172, u173, u174, u175, u176, u177, u178, u179, u180, u181, u182, u183, u184, u185, u186, u187, u188, u189, u190, u191, u192, u193, u194, u195, u196, u197, u198, u199, u200, u201, u202, u203, u204, u205, u206, u207, u208, u209, u210, u211, u212, u213, u214, u215, u216, u217, u218, u219, u220, u221, u222, u223, u224, u225, u226, u227, u228, u229, u230, u231, u232, u233, u234, u235, u236, u237, u238, u239, u240, u241, u242, u243, u244, u245, u246, u247, u248, u249, u250, u251, u252, u253, u254, u255, Value.tuple #[Value.agg #[Value.int IntKind.i64 t423, Value.slice Ao172 (List.length t424) co172], Value.bool t427], u257, u258, u259, u260, u261, u262, u263, u264, u265, u266, u267, u268, u269, u270, u271, u272, u273, u274, u275, u276, u277, u278, u279, u280, u281, u282, u283, u284, u285, u286, u287, u288, u289, u290, u291, u292, u293, u294, u295, u296, u297, u298, u299, u300, u301, u302, u303, u304, u305, u306, u307, u308, u309, u310, u311, u312, u313, u314, u315, u316, u317, u318, u319, u320, u321, u322, u323, u324, u325, u326, u327, u328, u329, u330, u331, u332, u333, Value.tuple #[Value.agg #[Value.int IntKind.i64 t451, Value.slice Ao282 (List.length t452) co282], Value.bool t455], Value.agg #[Value.int IntKind.i64 a4_0, Value.slice A4_1 (List.length l4_1) c4_1], Value.agg #[Value.int IntKind.i64 a5_0, Value.int IntKind.i64 a5_1, Value.int IntKind.i64 a5_2, Value.int IntKind.i64 a5_3], Value.tuple #[Value.agg #[Value.int IntKind.i64 t451, Value.slice Ao282 (List.length t452) co282], Value.bool t455], Value.agg #[Value.int IntKind.i64 t451, Value.slice Ao282 (List.length t452) co282], u339, Value.tuple #[Value.agg #[Value.int IntKind.i64 t457, Value.slice Ao294 (List.length t458) co294], Value.bool t461], Value.agg #[Value.int IntKind.i64 a4_0, Value.slice A4_1 (List.length l4_1) c4_1], Value.agg #[Value.int IntKind.i64 a5_0, Value.int IntKind.i64 a5_1, Value.int IntKind.i64 a5_2, Value.int IntKind.i64 a5_3], Value.tuple #[Value.agg #[Value.int IntKind.i64 t457, Value.slice Ao294 (List.length t458) co294], Value.bool t461], Value.agg #[Value.int IntKind.i64 t457, Value.slice Ao294 (List.length t458) co294], u345, Value.tuple #[Value.agg #[Value.int IntKind.i64 t463, Value.slice Ao308 (List.length t464) co308], Value.bool t467], Value.agg #[Value.int IntKind.i64 a6_0, Value.slice A6_1 (List.length l6_1) c6_1], Value.int IntKind.i64 a7, Value.tuple #[Value.agg #[Value.int IntKind.i64 t463, Value.slice Ao308 (List.length t464) co308], Value.bool t467], Value.agg #[Value.int IntKind.i64 t463, Value.slice Ao308 (List.length t464) co308], u351, Value.tuple #[Value.agg #[Value.int IntKind.i64 t469, Value.slice Ao321 (List.length t470) co321], Value.bool t473], Value.agg #[Value.int IntKind.i64 a6_0, Value.slice A6_1 (List.length l6_1) c6_1], Value.int IntKind.i64 a7, Value.tuple #[Value.agg #[Value.int IntKind.i64 t469, Value.slice Ao321 (List.length t470) co321], Value.bool t473], u356, u357, u358, u359, u360, u361, u362, u363, u364, u365, u366, u367, u368, u369, u370, u371, u372, u373, u374, u375, u376, u377, u378, u379, u380, u381, u382, u383, u384, u385, u386, u387, u388, u389, u390, u391, u392, u393, u394, u395, u396, u397, u398, u399, u400, u401, u402, u403, u404, u405, u406, u407, u408, u409, u410, u411, u412, u413, u414, u415, u416, u417, u418, u419, u420, u421, u422, u423, u424, u425, u426, u427, u428, u429, u430, u431, u432, u433, u434, u435, u436, u437, u438, u439, u440, u441, u442, u443, u444, u445, u446, u447, u448, u449, u450, u451, u452, u453, u454, Value.bool x455_381, undef, undef, undef, undef, undef, undef, undef, undef, undef, undef, undef, undef, undef, undef, undef, undef], defers := [] } wc := by
 conv at x5_ in cdd _ _ => whnf
 conv in cdd _ _ => whnf
 try dsimp only
 cases kq with
 | zero => exact absurd HA.out (by simp [laws_FnRowsHiddenOfAll.j9])
 | succ kj381 =>
  have H := HA.out
  clear HA
  simp only [laws_FnRowsHiddenOfAll.j9] at H
  by_cases c386 : x455_381 = true
  ·subst c386
   rw [if_pos rfl] at H
   replace H := oi H
   obtain ⟨c387, H⟩ := H
   have c387b0 := decide_eq_true c387
   clear c387
   replace H := oi H
   obtain ⟨c388, H⟩ := H
   have c388b0 := decide_eq_true c388
   clear c388
   replace H := ob H
   obtain ⟨⟨t493, t494, t497⟩, A389, H⟩ := H
   (try dsimp only at H)
   replace H := ofr HRT H
   obtain ⟨c390, H⟩ := H
   subst c390
   replace H := ob H
   obtain ⟨t499, A391, H⟩ := H
   (try dsimp only at H)
   obtain rfl := Option.some.inj H
   try go_upto_region 63 with (fail)
   replace HO_469001 := Aside0.mk (Kd.R_drew HO_469001.out)
   replace BK377 := Aside0.mk (blk_drew BK377.out)
   replace BK468 := Aside0.mk (blk_drew BK468.out)
   replace HB := Aside0.mk (below_drew1 HB.out)
   have p492 : 0 ≤ (a7 : Int) := of_decide_eq_true asm
   have q492 : a7 < (l6_1.length : Int) := of_decide_eq_true asm
   obtain ⟨ad492, e492, hx492_0, hx492_1, hx492_2, hx492_3⟩ := at_T26 HR6_1.out a7 p492 q492
   have hw492_3 := hx492_3
   have hw492_2 := hx492_2
   have hw492_1 := hx492_1
   have hw492_0 := hx492_0
   cases e492
   replace hx492_0 := (HB.out.cell (World.block_lt_of_cell? w _ hx492_0)).trans hx492_0
   replace hx492_1 := (HB.out.cell (World.block_lt_of_cell? w _ hx492_1)).trans hx492_1
   replace hx492_2 := (HB.out.cell (World.block_lt_of_cell? w _ hx492_2)).trans hx492_2
   replace hx492_3 := (HB.out.cell (World.block_lt_of_cell? w _ hx492_3)).trans hx492_3
   replace p492 := eq_true p492
   replace q492 := eq_true q492
   refine start_ (n := 13) (S := fun w' => w'.cell? ⟨gb468, 0, none⟩ = some (.int .i64 t463) ∧ w'.cell? ⟨gb468, 1, none⟩ = some (.slice Ao308 t464.length co308) ∧ w'.cell? ⟨gb377, 0, none⟩ = some (.int .i64 a6_0) ∧ w'.cell? ⟨gb377, 1, none⟩ = some (.slice (some ad492) l6_1.length c6_1) ∧ w'.cell? (ad492.add ((a7).toNat * 4)) = some (.int .i64 ((rd_T26 l6_1 a7).f0)) ∧ w'.cell? ⟨(ad492.add ((a7).toNat * 4)).block, (ad492.add ((a7).toNat * 4)).off + 1, none⟩ = some (.int .i64 ((rd_T26 l6_1 a7).f1)) ∧ w'.cell? ⟨(ad492.add ((a7).toNat * 4)).block, (ad492.add ((a7).toNat * 4)).off + 2, none⟩ = some (.int .i64 ((rd_T26 l6_1 a7).f2)) ∧ w'.cell? ⟨(ad492.add ((a7).toNat * 4)).block, (ad492.add ((a7).toNat * 4)).off + 3, none⟩ = some (.int .i64 ((rd_T26 l6_1 a7).f3))) (ds := []) (tb 13 0) (by kernel_rfl) rfl rfl ⟨ec BK468, ec BK468, ec BK377, ec BK377, ((HB.out.cell (World.block_lt_of_cell? w _ hw492_0)).trans hw492_0), ((HB.out.cell (World.block_lt_of_cell? w _ hw492_1)).trans hw492_1), ((HB.out.cell (World.block_lt_of_cell? w _ hw492_2)).trans hw492_2), ((HB.out.cell (World.block_lt_of_cell? w _ hw492_3)).trans hw492_3)⟩ (fun hHeld => ?_); refine with_tabW laws_FnRowsHiddenOfAll.tab63 laws_FnRowsHiddenOfAll.bits63 (fun HT_ HW_ => ?_)
   generalize wc.drew = w392 at HO_469001 BK377 BK468 HB hx492_0 hx492_1 hx492_2 hx492_3 hHeld ⊢
   refine pu 1 (some 458) (tb 13 2) ?_
   refine pu 3 (some 460) (tb 13 10) ?_
   refine tk 0 (some 457) (tb 13 11) (hT := HT_) (hB := HW_) hHeld ?_
   refine tk 2 (some 459) (tb 13 15) (hT := HT_) (hB := HW_) hHeld ?_
   refine pu 4 (some 461) (tb 13 31) ?_
   refine tk 5 (some 462) (tb 13 63) (hT := HT_) (hB := HW_) hHeld ?_
   refine join_ (σ := Value × Nat) 2 (tb 13 2047) (fun s_ => [(463, .tuple #[.agg #[.int .i64 t493, s_.1], .bool true]), (79, .pointer (some ⟨s_.2, 0, none⟩)), (456, .tuple #[.agg #[.int .i64 t493, s_.1], .bool true]), (464, .agg #[.int .i64 t493, s_.1]), (465, .bool true)]) (fun s_ w' => (w'.cell? ⟨gb468, 0, none⟩ = some (.int .i64 t463) ∧ w'.cell? ⟨gb468, 1, none⟩ = some (.slice Ao308 t464.length co308) ∧ w'.cell? ⟨gb377, 0, none⟩ = some (.int .i64 a6_0) ∧ w'.cell? ⟨gb377, 1, none⟩ = some (.slice (some ad492) l6_1.length c6_1) ∧ w'.cell? (ad492.add ((a7).toNat * 4)) = some (.int .i64 ((rd_T26 l6_1 a7).f0)) ∧ w'.cell? ⟨(ad492.add ((a7).toNat * 4)).block, (ad492.add ((a7).toNat * 4)).off + 1, none⟩ = some (.int .i64 ((rd_T26 l6_1 a7).f1)) ∧ w'.cell? ⟨(ad492.add ((a7).toNat * 4)).block, (ad492.add ((a7).toNat * 4)).off + 2, none⟩ = some (.int .i64 ((rd_T26 l6_1 a7).f2)) ∧ w'.cell? ⟨(ad492.add ((a7).toNat * 4)).block, (ad492.add ((a7).toNat * 4)).off + 3, none⟩ = some (.int .i64 ((rd_T26 l6_1 a7).f3))) ∧ (Kd.R k26 26 w' w.heap.size (fun k_ => some k_ ≠ (.slice Ao308 t464.length co308 : Value).ownBlock) s_.1 t494) ∧ (Kd.R k26 26 w' w.heap.size (fun k_ => some k_ ≠ (s_.1 : Value).ownBlock) (.slice Ao308 t464.length co308) t464) ∧ (w'.heap[gb377]? = some (.cells #[.int .i64 a6_0, .slice (some ad492) l6_1.length c6_1] 24 (0, 0))) ∧ (w'.heap[gb468]? = some (.cells #[.int .i64 t463, .slice Ao308 t464.length co308] 24 (0, 0))) ∧ (w'.heap[s_.2]? = some (.cells #[.int .i64 0, .slice none 0 0] 24 (0, 0))) ∧ (w.heap.size ≤ s_.2) ∧ (w.heap.size ≤ s_.2) ∧ (gb377 ≠ s_.2) ∧ (s_.2 ≠ gb377) ∧ (gb468 ≠ s_.2) ∧ (s_.2 ≠ gb468) ∧ (Below w.heap.size w w')) ?_ ?_
   rotate_left
   ·intro hCont
    refine two_ (i := 6) (j := 10) (Ni := some 463) (Nj := some 79) (tb 13 127) (tb 13 1087) rfl rfl rfl rfl (two_of HT_.out (by kernel_rfl)) (by decide) (by decide) (fun K hK => ?_) (fun K hK => ?_)
    ·skip
     refine go1 Tryz.func19 #[.agg #[.int .i64 t463, .slice Ao308 t464.length co308], .agg #[.int .i64 ((rd_T26 l6_1 a7).f0), .int .i64 ((rd_T26 l6_1 a7).f1), .int .i64 ((rd_T26 l6_1 a7).f2), .int .i64 ((rd_T26 l6_1 a7).f3)]] ?_
     with_reducible refine (impl_AddClue.calls kj381 t463 _ _ t464 ((rd_T26 l6_1 a7).f0) ((rd_T26 l6_1 a7).f1) ((rd_T26 l6_1 a7).f2) ((rd_T26 l6_1 a7).f3) t493 t494 true _ ?side1 ?side2 A389.out).mono ?_
     (case side1 => exact rr HO_469001)
     (case side2 => exact rn HO_469001)
     rintro e w393 ⟨v495, rfl, ho0, hb⟩
     refine ⟨_, rfl, ?_⟩
     have HO496 := Aside0.mk (Kd.R_lower (Kd.R_new' ho0 (Kd.R_lt (pr HO_469001))) (below_size bw))
     replace HO_469001 := re HO_469001 ho0 hb
     replace BK377 := nk BK377 hb
     replace BK468 := nk BK468 hb
     replace HB := bs hb
     (try clear hb)
     (try clear ho0)
     refine hK.out _ _ ⟨ec BK468, ec BK468, ec BK377, ec BK377, ((HB.out.cell (World.block_lt_of_cell? w _ hw492_0)).trans hw492_0), ((HB.out.cell (World.block_lt_of_cell? w _ hw492_1)).trans hw492_1), ((HB.out.cell (World.block_lt_of_cell? w _ hw492_2)).trans hw492_2), ((HB.out.cell (World.block_lt_of_cell? w _ hw492_3)).trans hw492_3)⟩ (fun hHeld => ?_)
     clear hK K
     refine nm (some 463) ?_
     refine pu 7 (some 456) (tb 13 255) ?_
     refine pu 8 (some 464) (tb 13 511) ?_
     refine pu 9 (some 465) (tb 13 1023) ?_
     refine one_ (i := 10) (N := some 79) (tb 13 2047) rfl rfl (one_of HT_.out (by kernel_rfl)) (by decide) (fun K hK => ?_)
     refine box_step ?hg (N := 79) ?hd (cs := #[.int .i64 0, .slice none 0 0]) (t := 24) ?hr ?_; (case hd => rfl); (case hg => rfl); (case hr => first | (go_simp; done) | (go_simp; rfl))
     intro gb498 hg w394 hbox hb
     replace HO_469001 := rl HO_469001 hb
     replace HO496 := rl HO496 hb
     have BK498 := Aside0.mk (hbox)
     have GW498 := gs hg
     have GE498 := gs hg
     replace HB := bs hb
     have ⟨NB377_498, NB498_377⟩ := nn BK377 hg
     replace BK377 := nk BK377 hb
     have ⟨NB468_498, NB498_468⟩ := nn BK468 hg
     replace BK468 := nk BK468 hb
     clear hb hbox hg
     refine hK.out _ _ ⟨ec BK468, ec BK468, ec BK377, ec BK377, ((HB.out.cell (World.block_lt_of_cell? w _ hw492_0)).trans hw492_0), ((HB.out.cell (World.block_lt_of_cell? w _ hw492_1)).trans hw492_1), ((HB.out.cell (World.block_lt_of_cell? w _ hw492_2)).trans hw492_2), ((HB.out.cell (World.block_lt_of_cell? w _ hw492_3)).trans hw492_3)⟩ (fun hHeld => ?_)
     clear hK K
     refine nm (some 79) ?_
     exact norm_ (by simp only [putAll, Act.put, List.setIfInBounds_toArray, List.set_cons_zero, List.set_cons_succ]) (hCont (v495, gb498) _ ⟨hHeld, (by (with_reducible repeat (first | apply Kd.R_alloc | apply Kd.R_drewN | apply Kd.R_drew)); exact Kd.R_mono HO496.out (fun _ hk => hk.2)), (by (with_reducible repeat (first | apply Kd.R_alloc | apply Kd.R_drewN | apply Kd.R_drew)); exact Kd.R_mono HO_469001.out (fun _ hk => hk.2)), (pk BK377), (pk BK468), (pk BK498), GW498.out, GE498.out, NB377_498.out, NB498_377.out, NB468_498.out, NB498_468.out, bw⟩)
    ·skip
     refine box_step ?hg (N := 79) ?hd (cs := #[.int .i64 0, .slice none 0 0]) (t := 24) ?hr ?_; (case hd => rfl); (case hg => rfl); (case hr => first | (go_simp; done) | (go_simp; rfl))
     intro gb498 hg w393 hbox hb
     replace HO_469001 := rl HO_469001 hb
     have BK498 := Aside0.mk (hbox)
     have GW498 := gs hg
     have GE498 := gs hg
     replace HB := bs hb
     have ⟨NB377_498, NB498_377⟩ := nn BK377 hg
     replace BK377 := nk BK377 hb
     have ⟨NB468_498, NB498_468⟩ := nn BK468 hg
     replace BK468 := nk BK468 hb
     clear hb hbox hg
     refine hK.out _ _ ⟨ec BK468, ec BK468, ec BK377, ec BK377, ((HB.out.cell (World.block_lt_of_cell? w _ hw492_0)).trans hw492_0), ((HB.out.cell (World.block_lt_of_cell? w _ hw492_1)).trans hw492_1), ((HB.out.cell (World.block_lt_of_cell? w _ hw492_2)).trans hw492_2), ((HB.out.cell (World.block_lt_of_cell? w _ hw492_3)).trans hw492_3)⟩ (fun hHeld => ?_)
     clear hK K
     refine nm (some 79) ?_
     refine one_ (i := 6) (N := some 463) (tb 13 1151) rfl rfl (one_of HT_.out (by kernel_rfl)) (by decide) (fun K hK => ?_)
     refine go1 Tryz.func19 #[.agg #[.int .i64 t463, .slice Ao308 t464.length co308], .agg #[.int .i64 ((rd_T26 l6_1 a7).f0), .int .i64 ((rd_T26 l6_1 a7).f1), .int .i64 ((rd_T26 l6_1 a7).f2), .int .i64 ((rd_T26 l6_1 a7).f3)]] ?_
     with_reducible refine (impl_AddClue.calls kj381 t463 _ _ t464 ((rd_T26 l6_1 a7).f0) ((rd_T26 l6_1 a7).f1) ((rd_T26 l6_1 a7).f2) ((rd_T26 l6_1 a7).f3) t493 t494 true _ ?side1 ?side2 A389.out).mono ?_
     (case side1 => exact rr HO_469001)
     (case side2 => exact rn HO_469001)
     rintro e w394 ⟨v495, rfl, ho0, hb⟩
     refine ⟨_, rfl, ?_⟩
     have HO496 := Aside0.mk (Kd.R_lower (Kd.R_new' ho0 (Kd.R_lt (pr HO_469001))) (below_size bw))
     replace HO_469001 := re HO_469001 ho0 hb
     replace BK377 := nk BK377 hb
     replace BK468 := nk BK468 hb
     replace BK498 := nk BK498 hb
     replace HB := bs hb
     (try clear hb)
     (try clear ho0)
     refine hK.out _ _ ⟨ec BK468, ec BK468, ec BK377, ec BK377, ((HB.out.cell (World.block_lt_of_cell? w _ hw492_0)).trans hw492_0), ((HB.out.cell (World.block_lt_of_cell? w _ hw492_1)).trans hw492_1), ((HB.out.cell (World.block_lt_of_cell? w _ hw492_2)).trans hw492_2), ((HB.out.cell (World.block_lt_of_cell? w _ hw492_3)).trans hw492_3)⟩ (fun hHeld => ?_)
     clear hK K
     refine nm (some 463) ?_
     refine pu 7 (some 456) (tb 13 1279) ?_
     refine pu 8 (some 464) (tb 13 1535) ?_
     refine pu 9 (some 465) (tb 13 2047) ?_
     exact norm_ (by simp only [putAll, Act.put, List.setIfInBounds_toArray, List.set_cons_zero, List.set_cons_succ]) (hCont (v495, gb498) _ ⟨hHeld, (by (with_reducible repeat (first | apply Kd.R_alloc | apply Kd.R_drewN | apply Kd.R_drew)); exact Kd.R_mono HO496.out (fun _ hk => hk.2)), (by (with_reducible repeat (first | apply Kd.R_alloc | apply Kd.R_drewN | apply Kd.R_drew)); exact Kd.R_mono HO_469001.out (fun _ hk => hk.2)), (pk BK377), (pk BK468), (pk BK498), GW498.out, GE498.out, NB377_498.out, NB498_377.out, NB468_498.out, NB498_468.out, bw⟩)
   rintro ⟨v495, gb498⟩ w395 ⟨hS_, h0_, h1_, h2_, h3_, h4_, h5_, h6_, h7_, h8_, h9_, h10_, h11_⟩
   have n0_ : Aside0 (Kd.R k26 26 w395 w.heap.size (fun k_ => some k_ ≠ (.slice Ao308 t464.length co308 : Value).ownBlock) v495 t494) := ⟨h0_⟩
   have n1_ : Aside0 (Kd.R k26 26 w395 w.heap.size (fun k_ => some k_ ≠ (v495 : Value).ownBlock) (.slice Ao308 t464.length co308) t464) := ⟨h1_⟩
   have n2_ : Aside0 (w395.heap[gb377]? = some (.cells #[.int .i64 a6_0, .slice (some ad492) l6_1.length c6_1] 24 (0, 0))) := ⟨h2_⟩
   have n3_ : Aside0 (w395.heap[gb468]? = some (.cells #[.int .i64 t463, .slice Ao308 t464.length co308] 24 (0, 0))) := ⟨h3_⟩
   have n4_ : Aside0 (w395.heap[gb498]? = some (.cells #[.int .i64 0, .slice none 0 0] 24 (0, 0))) := ⟨h4_⟩
   have n5_ : Aside0 (w.heap.size ≤ gb498) := ⟨h5_⟩
   have n6_ : Aside0 (w.heap.size ≤ gb498) := ⟨h6_⟩
   have n7_ : Aside0 (gb377 ≠ gb498) := ⟨h7_⟩
   have n8_ : Aside0 (gb498 ≠ gb377) := ⟨h8_⟩
   have n9_ : Aside0 (gb468 ≠ gb498) := ⟨h9_⟩
   have n10_ : Aside0 (gb498 ≠ gb468) := ⟨h10_⟩
   have n11_ : Aside0 (Below w.heap.size w w395) := ⟨h11_⟩
   clear HO_469001
   clear BK377
   clear BK468
   clear HB
   clear h0_ h1_ h2_ h3_ h4_ h5_ h6_ h7_ h8_ h9_ h10_ h11_
   have HO496 := n0_
   have HO_469001 := n1_
   have BK377 := n2_
   have BK468 := n3_
   have BK498 := n4_
   have GW498 := n5_
   have GE498 := n6_
   have NB377_498 := n7_
   have NB498_377 := n8_
   have NB468_498 := n9_
   have NB498_468 := n10_
   have HB := n11_
   clear n0_ n1_ n2_ n3_ n4_ n5_ n6_ n7_ n8_ n9_ n10_ n11_
   have hHeld : w395.cell? ⟨gb468, 0, none⟩ = some (.int .i64 t463) ∧ w395.cell? ⟨gb468, 1, none⟩ = some (.slice Ao308 t464.length co308) ∧ w395.cell? ⟨gb377, 0, none⟩ = some (.int .i64 a6_0) ∧ w395.cell? ⟨gb377, 1, none⟩ = some (.slice (some ad492) l6_1.length c6_1) ∧ w395.cell? (ad492.add ((a7).toNat * 4)) = some (.int .i64 ((rd_T26 l6_1 a7).f0)) ∧ w395.cell? ⟨(ad492.add ((a7).toNat * 4)).block, (ad492.add ((a7).toNat * 4)).off + 1, none⟩ = some (.int .i64 ((rd_T26 l6_1 a7).f1)) ∧ w395.cell? ⟨(ad492.add ((a7).toNat * 4)).block, (ad492.add ((a7).toNat * 4)).off + 2, none⟩ = some (.int .i64 ((rd_T26 l6_1 a7).f2)) ∧ w395.cell? ⟨(ad492.add ((a7).toNat * 4)).block, (ad492.add ((a7).toNat * 4)).off + 3, none⟩ = some (.int .i64 ((rd_T26 l6_1 a7).f3)) := hS_
   obtain ⟨Ao397, co397, eo397⟩ := Kd.R_slice HO496.out
   (first | subst eo397 | (injection eo397 with f1_ f2_ f3_; have f4_ := f1_.symm; have f5_ := f3_.symm; clear f1_ f2_ f3_; subst f4_; subst f5_))
   refine norm_ (a' := ?_) ?_ ?_
   rotate_left
   ·simp only [putAll, Act.put, List.setIfInBounds_toArray, List.set_cons_zero, List.set_cons_succ]
    rfl
   refine one_ (i := 11) (N := none) (tb 13 4095) rfl rfl (one_of HT_.out (by kernel_rfl)) (by decide) (fun K hK => ?_)
   have hs396 : w395.cell? ⟨gb498, 0, none⟩ = some (.int .i64 0) := ec BK498
   have hfs396 := blk_frozen BK498.out 0
   have hns396_0 := NB377_498.out
   have hns396_1 := NB468_498.out
   have hms396_0 := NB498_377.out
   have hms396_1 := NB498_468.out
   have hs398 : w395.cell? ⟨gb498, 1, none⟩ = some (.slice none 0 0) := ec BK498
   have hfs398 := blk_frozen BK498.out 1
   have hns398_0 := NB377_498.out
   have hns398_1 := NB468_498.out
   have hms398_0 := NB498_377.out
   have hms398_1 := NB498_468.out
   refine skip_ (w1 := ?_) (by rfl) rfl ?_ ?_
   rotate_left
   ·go_simp
    rfl
   refine hK.out _ _ ⟨((cell_far (p := ⟨gb498, _, none⟩) NB468_498.out _).trans (((cell_far (p := ⟨gb498, _, none⟩) NB468_498.out _).trans (hHeld.1)))), ((cell_far (p := ⟨gb498, _, none⟩) NB468_498.out _).trans (((cell_far (p := ⟨gb498, _, none⟩) NB468_498.out _).trans (hHeld.2.1)))), ((cell_far (p := ⟨gb498, _, none⟩) NB377_498.out _).trans (((cell_far (p := ⟨gb498, _, none⟩) NB377_498.out _).trans (hHeld.2.2.1)))), ((cell_far (p := ⟨gb498, _, none⟩) NB377_498.out _).trans (((cell_far (p := ⟨gb498, _, none⟩) NB377_498.out _).trans (hHeld.2.2.2.1)))), ((cell_far (p := ⟨gb498, _, none⟩) (by first | exact Nat.ne_of_lt (Nat.lt_of_lt_of_le (by have := World.block_lt_of_cell? _ _ hw492_0; first | rwa [add_block] at this | exact this) GW498.out) | (rw [add_block]; exact Nat.ne_of_lt (Nat.lt_of_lt_of_le (by have := World.block_lt_of_cell? _ _ hw492_0; first | rwa [add_block] at this | exact this) GW498.out)) | (show (Addr.add _ _).block ≠ _; rw [add_block]; exact Nat.ne_of_lt (Nat.lt_of_lt_of_le (by have := World.block_lt_of_cell? _ _ hw492_0; first | rwa [add_block] at this | exact this) GW498.out)) | (dsimp only; exact Nat.ne_of_lt (Nat.lt_of_lt_of_le (by have := World.block_lt_of_cell? _ _ hw492_0; first | rwa [add_block] at this | exact this) GW498.out))) _).trans (((cell_far (p := ⟨gb498, _, none⟩) (by first | exact Nat.ne_of_lt (Nat.lt_of_lt_of_le (by have := World.block_lt_of_cell? _ _ hw492_0; first | rwa [add_block] at this | exact this) GW498.out) | (rw [add_block]; exact Nat.ne_of_lt (Nat.lt_of_lt_of_le (by have := World.block_lt_of_cell? _ _ hw492_0; first | rwa [add_block] at this | exact this) GW498.out)) | (show (Addr.add _ _).block ≠ _; rw [add_block]; exact Nat.ne_of_lt (Nat.lt_of_lt_of_le (by have := World.block_lt_of_cell? _ _ hw492_0; first | rwa [add_block] at this | exact this) GW498.out)) | (dsimp only; exact Nat.ne_of_lt (Nat.lt_of_lt_of_le (by have := World.block_lt_of_cell? _ _ hw492_0; first | rwa [add_block] at this | exact this) GW498.out))) _).trans (hHeld.2.2.2.2.1)))), ((cell_far (p := ⟨gb498, _, none⟩) (by first | exact Nat.ne_of_lt (Nat.lt_of_lt_of_le (by have := World.block_lt_of_cell? _ _ hw492_1; first | rwa [add_block] at this | exact this) GW498.out) | (rw [add_block]; exact Nat.ne_of_lt (Nat.lt_of_lt_of_le (by have := World.block_lt_of_cell? _ _ hw492_1; first | rwa [add_block] at this | exact this) GW498.out)) | (show (Addr.add _ _).block ≠ _; rw [add_block]; exact Nat.ne_of_lt (Nat.lt_of_lt_of_le (by have := World.block_lt_of_cell? _ _ hw492_1; first | rwa [add_block] at this | exact this) GW498.out)) | (dsimp only; exact Nat.ne_of_lt (Nat.lt_of_lt_of_le (by have := World.block_lt_of_cell? _ _ hw492_1; first | rwa [add_block] at this | exact this) GW498.out))) _).trans (((cell_far (p := ⟨gb498, _, none⟩) (by first | exact Nat.ne_of_lt (Nat.lt_of_lt_of_le (by have := World.block_lt_of_cell? _ _ hw492_1; first | rwa [add_block] at this | exact this) GW498.out) | (rw [add_block]; exact Nat.ne_of_lt (Nat.lt_of_lt_of_le (by have := World.block_lt_of_cell? _ _ hw492_1; first | rwa [add_block] at this | exact this) GW498.out)) | (show (Addr.add _ _).block ≠ _; rw [add_block]; exact Nat.ne_of_lt (Nat.lt_of_lt_of_le (by have := World.block_lt_of_cell? _ _ hw492_1; first | rwa [add_block] at this | exact this) GW498.out)) | (dsimp only; exact Nat.ne_of_lt (Nat.lt_of_lt_of_le (by have := World.block_lt_of_cell? _ _ hw492_1; first | rwa [add_block] at this | exact this) GW498.out))) _).trans (hHeld.2.2.2.2.2.1)))), ((cell_far (p := ⟨gb498, _, none⟩) (by first | exact Nat.ne_of_lt (Nat.lt_of_lt_of_le (by have := World.block_lt_of_cell? _ _ hw492_2; first | rwa [add_block] at this | exact this) GW498.out) | (rw [add_block]; exact Nat.ne_of_lt (Nat.lt_of_lt_of_le (by have := World.block_lt_of_cell? _ _ hw492_2; first | rwa [add_block] at this | exact this) GW498.out)) | (show (Addr.add _ _).block ≠ _; rw [add_block]; exact Nat.ne_of_lt (Nat.lt_of_lt_of_le (by have := World.block_lt_of_cell? _ _ hw492_2; first | rwa [add_block] at this | exact this) GW498.out)) | (dsimp only; exact Nat.ne_of_lt (Nat.lt_of_lt_of_le (by have := World.block_lt_of_cell? _ _ hw492_2; first | rwa [add_block] at this | exact this) GW498.out))) _).trans (((cell_far (p := ⟨gb498, _, none⟩) (by first | exact Nat.ne_of_lt (Nat.lt_of_lt_of_le (by have := World.block_lt_of_cell? _ _ hw492_2; first | rwa [add_block] at this | exact this) GW498.out) | (rw [add_block]; exact Nat.ne_of_lt (Nat.lt_of_lt_of_le (by have := World.block_lt_of_cell? _ _ hw492_2; first | rwa [add_block] at this | exact this) GW498.out)) | (show (Addr.add _ _).block ≠ _; rw [add_block]; exact Nat.ne_of_lt (Nat.lt_of_lt_of_le (by have := World.block_lt_of_cell? _ _ hw492_2; first | rwa [add_block] at this | exact this) GW498.out)) | (dsimp only; exact Nat.ne_of_lt (Nat.lt_of_lt_of_le (by have := World.block_lt_of_cell? _ _ hw492_2; first | rwa [add_block] at this | exact this) GW498.out))) _).trans (hHeld.2.2.2.2.2.2.1)))), ((cell_far (p := ⟨gb498, _, none⟩) (by first | exact Nat.ne_of_lt (Nat.lt_of_lt_of_le (by have := World.block_lt_of_cell? _ _ hw492_3; first | rwa [add_block] at this | exact this) GW498.out) | (rw [add_block]; exact Nat.ne_of_lt (Nat.lt_of_lt_of_le (by have := World.block_lt_of_cell? _ _ hw492_3; first | rwa [add_block] at this | exact this) GW498.out)) | (show (Addr.add _ _).block ≠ _; rw [add_block]; exact Nat.ne_of_lt (Nat.lt_of_lt_of_le (by have := World.block_lt_of_cell? _ _ hw492_3; first | rwa [add_block] at this | exact this) GW498.out)) | (dsimp only; exact Nat.ne_of_lt (Nat.lt_of_lt_of_le (by have := World.block_lt_of_cell? _ _ hw492_3; first | rwa [add_block] at this | exact this) GW498.out))) _).trans (((cell_far (p := ⟨gb498, _, none⟩) (by first | exact Nat.ne_of_lt (Nat.lt_of_lt_of_le (by have := World.block_lt_of_cell? _ _ hw492_3; first | rwa [add_block] at this | exact this) GW498.out) | (rw [add_block]; exact Nat.ne_of_lt (Nat.lt_of_lt_of_le (by have := World.block_lt_of_cell? _ _ hw492_3; first | rwa [add_block] at this | exact this) GW498.out)) | (show (Addr.add _ _).block ≠ _; rw [add_block]; exact Nat.ne_of_lt (Nat.lt_of_lt_of_le (by have := World.block_lt_of_cell? _ _ hw492_3; first | rwa [add_block] at this | exact this) GW498.out)) | (dsimp only; exact Nat.ne_of_lt (Nat.lt_of_lt_of_le (by have := World.block_lt_of_cell? _ _ hw492_3; first | rwa [add_block] at this | exact this) GW498.out))) _).trans (hHeld.2.2.2.2.2.2.2))))⟩ (fun hHeld => ?_)
   clear hK K
   refine pu 12 (some 80) (tb 13 8191) ?_
   refine done_ (done_of HT_.out (by kernel_rfl)) ?_
   have hnb399 := nb NB498_377
   have hnb400 := nb NB498_468
   have hz401 := z2 BK498
   have hnb402 := nb NB377_468
   have hz403 := z2 BK377
   try go_wp2_with (first | (go_at_call 6; (with_reducible refine (laws_vPuzzle.calls kj381 t493 _ _ t494 a6_0 _ _ l6_1 t499 _ ?side1 ?side2 ?side3 ?side4 A391.out).mono ?_); (case side1 => refine (Kd.R_reads' (e := 26) (base := w.heap.size) (ok := fun k_ => some k_ ≠ (.slice Ao308 t464.length co308 : Value).ownBlock) (n := t494.length) (c := co397) ?_).2.2; exact (qf HO496)); (case side2 => exact rn HO496); (case side3 => exact Kd.C_below HR6_1.out bw); (case side4 => exact HC6_1.out); rintro e w404 ⟨rfl, hb⟩; replace HO_469001 := Aside0.mk (Kd.R_below (qf HO_469001) hb); replace HO496 := Aside0.mk (Kd.R_below (qf HO496) hb); replace BK377 := nf BK377 hb; replace BK468 := nf BK468 hb; replace BK498 := Aside0.mk (blk_below (g := gb498) (o := .cells #[.int .i64 t493, .slice Ao397 t494.length co397] 24 (0, 0)) (pz BK498) hb); replace HB := bs hb; (try clear hb)))
   go_ret
   exact ⟨rs, bw⟩
  replace c386 := Bool.eq_false_iff.mpr c386
  subst c386
  rw [if_neg (show ¬ (false = true) by decide)] at H
  obtain rfl := Option.some.inj H
  go_wp2
  go_ret
  exact ⟨rs, bw⟩

set_option maxHeartbeats 80000000 in
set_option maxRecDepth 100000 in
theorem laws_FnRowsHiddenOfAll.r6
 (k : Nat)
 (a0 : ByteArray)
 (a1 a2 a3_0 : Int)
 (A3_1 : Option Addr)
 (c3_1 : Nat)
 (l3_1 : List S26)
 (a4_0 : Int)
 (A4_1 : Option Addr)
 (c4_1 : Nat)
 (l4_1 : List S26)
 (a5_0 a5_1 a5_2 a5_3 a6_0 : Int)
 (A6_1 : Option Addr)
 (c6_1 : Nat)
 (l6_1 : List S26)
 (a7 a8_0 a8_1 a8_2 a8_3 : Int)
 (a9 : ByteArray)
 (a10 a11_0 a11_1 a11_2 a11_3 : Int)
 (r : Bool)
 (w : World)
 (HR6_1 : Aside0 (Kd.C k26 w A6_1 (List.length l6_1) l6_1))
 (HC6_1 : Aside0 (List.length l6_1 ≤ c6_1))
 (HRT : Aside0 (r = true))
 (gb374 gb375 gb376 gb377 gb378 gb379 : Nat)
 (u81 u82 u85 u86 : Value)
 (kj12 : Nat)
 (HJ12 : Aside0 (kj12 + 1 ≤ k))
 (t380 : Int)
 (t381 : List S26)
 (t384 : Bool)
 (t386 : Int)
 (t387 : List S26)
 (t390 : Bool)
 (gb385 : Nat)
 (Ao37 : Option Addr)
 (co37 gb391 : Nat)
 (Ao48 : Option Addr)
 (co48 : Nat)
 (u29 u30 u31 u32 u33 u34 u35 u36 u37 u38 u39 u40 u41 u42 u43 u44 u45 u46 u47 u48 u50 u51 u52 u83 u84 u87 u88 u95 u99 u100 u101 u102 u103 u104 u105 u106 u107 u108 u109 u110 u111 u112 u113 u114 u115 u116 u117 u118 u119 u120 u121 u122 u123 u124 u125 u126 u127 u128 u129 u130 u131 u132 u133 u134 u135 u136 u137 u138 u139 u140 u141 u142 u143 u144 u145 u146 u147 u148 u149 u150 u151 u152 u153 u154 u155 u156 u157 u158 u159 u160 u161 u162 u163 u164 u165 u166 u167 u168 u169 u170 u171 u172 u173 u174 u175 u176 u177 u178 u179 u180 u181 u182 u183 u184 u185 u186 u187 u188 u189 u190 u191 u192 u193 u194 u195 u196 u197 u198 u199 u200 u201 u202 u203 u204 u205 u206 u207 u208 u209 u210 u212 u213 u214 u215 u216 u217 u219 u220 u221 u222 u223 u236 u237 u238 u239 u240 u241 u242 u243 u244 u245 u246 u255 : Value)
 (kj26 : Nat)
 (HJ26 : Aside0 (kj26 + 1 ≤ kj12))
 (t423 : Int)
 (t424 : List S26)
 (t427 t433 t435 t436 : Bool)
 (gb428 : Nat)
 (Ao172 : Option Addr)
 (co172 gb434 : Nat)
 (u211 u218 u224 u225 u226 u227 u228 u257 u258 u259 u261 u262 u263 u264 u266 u267 u268 : Value)
 (kj155 : Nat)
 (HJ155 : Aside0 (kj155 + 1 ≤ kj26))
 (u59 u60 u61 u62 u63 u64 u229 u230 u231 u232 u233 u234 u235 u247 u248 u249 u250 u251 u252 u253 u254 u260 u265 u269 u270 u271 u272 u273 u274 u275 u276 u277 u278 u279 u280 u281 u282 u283 u284 u285 u286 u287 u288 u289 u290 u291 u292 u293 u294 u295 u296 u297 u298 u299 u300 u301 u302 u303 u304 u305 u306 u307 u308 u309 u311 u312 u321 u322 u326 u327 u328 u329 u330 u331 : Value)
 (kj223 : Nat)
 (HJ223 : Aside0 (kj223 + 1 ≤ kj155))
 (t451 : Int)
 (t452 : List S26)
 (t455 : Bool)
 (t457 : Int)
 (t458 : List S26)
 (t461 : Bool)
 (t463 : Int)
 (t464 : List S26)
 (t467 : Bool)
 (A260 : Aside0 (impl_DropClue.f kj223 a6_0 l6_1 a7 = some (t463, t464, t467)))
 (t469 : Int)
 (t470 : List S26)
 (t473 t475 t476 t477 t478 : Bool)
 (gb456 : Nat)
 (Ao282 : Option Addr)
 (co282 gb462 : Nat)
 (w286 : World)
 (Ao294 : Option Addr)
 (co294 : Nat)
 (hz297 : World.cell? w286 { block := gb377, off := 0 } = some (Value.int IntKind.i64 a6_0) ∧ World.cell? w286 { block := gb377, off := 1 } = some (Value.slice A6_1 (List.length l6_1) c6_1) ∧ World.frozen? w286 { block := gb377, off := 0 } = false ∧ World.frozen? w286 { block := gb377, off := 1 } = false)
 (gb468 : Nat)
 (w299 : World)
 (NB377_468 : Aside0 (gb377 ≠ gb468))
 (Ao308 : Option Addr)
 (co308 : Nat)
 (hz309 : World.cell? w299 { block := gb377, off := 0 } = some (Value.int IntKind.i64 a6_0) ∧ World.cell? w299 { block := gb377, off := 1 } = some (Value.slice A6_1 (List.length l6_1) c6_1) ∧ World.frozen? w299 { block := gb377, off := 0 } = false ∧ World.frozen? w299 { block := gb377, off := 1 } = false)
 (gb474 : Nat)
 (Ao321 : Option Addr)
 (co321 : Nat)
 (u310 u313 u314 u315 u316 u317 u318 u319 u320 u323 u324 u325 u332 u333 u339 u345 u351 u356 u357 u358 u359 u360 u361 u364 u365 u366 u367 u374 u375 u385 u386 u401 u402 u404 u405 : Value)
 (kj263 : Nat)
 (HJ263 : Aside0 (kj263 + 1 ≤ kj223))
 (wc : World)
 (u24 u77 u78 u362 u363 u368 u369 u370 u371 u372 u373 u376 u377 u378 u379 u380 u381 u382 u383 u384 u387 u388 u389 u390 u391 u392 u393 u394 u395 u396 u397 u398 u399 u400 u403 u406 u407 u408 u409 u410 u411 u412 u413 u414 u415 u416 u417 u418 u419 u420 u421 u422 u423 u424 u425 u426 u427 u428 u429 u430 u431 u432 u433 u434 u435 u436 u437 u438 u439 u440 u441 u442 u443 u444 u445 u446 : Value)
 (kq : Nat)
 (HA : Aside0 (j8 kq a7 t467 a6_0 l6_1 t463 t464 = some r))
 (HJ351 : Aside0 (kq ≤ kj263))
 (HO_469001 : Aside0 (Kd.R k26 26 wc (Array.size w.heap) (fun x => True) (Value.slice Ao308 (List.length t464) co308) t464))
 (BK377 : Aside0 (wc.heap[gb377]? = some (Obj.cells #[Value.int IntKind.i64 a6_0, Value.slice A6_1 (List.length l6_1) c6_1] 24)))
 (BK468 : Aside0 (wc.heap[gb468]? = some (Obj.cells #[Value.int IntKind.i64 t463, Value.slice Ao308 (List.length t464) co308] 24)))
 (HB : Aside0 (Below (Array.size w.heap) w wc)) :
 Code.wp Tryz.prog (cdd Tryz.f3 [1, 1, 1, 1, 1, 1, 1, 1, 1, 1, 1, 1, 1, 1, 1, 1, 1, 1, 1]) (bodyPost Tryz.prog Tryz.f3 fun e w' => e = Ending.returned (Value.bool r) ∧ Below (Array.size w.heap) w w') { tmps := #[Value.string a0, Value.int IntKind.i64 a1, Value.int IntKind.i64 a2, Value.agg #[Value.int IntKind.i64 a3_0, Value.slice A3_1 (List.length l3_1) c3_1], Value.agg #[Value.int IntKind.i64 a4_0, Value.slice A4_1 (List.length l4_1) c4_1], Value.agg #[Value.int IntKind.i64 a5_0, Value.int IntKind.i64 a5_1, Value.int IntKind.i64 a5_2, Value.int IntKind.i64 a5_3], Value.agg #[Value.int IntKind.i64 a6_0, Value.slice A6_1 (List.length l6_1) c6_1], Value.int IntKind.i64 a7, Value.agg #[Value.int IntKind.i64 a8_0, Value.int IntKind.i64 a8_1, Value.int IntKind.i64 a8_2, Value.int IntKind.i64 a8_3], Value.string a9, Value.int IntKind.i64 a10, Value.agg #[Value.int IntKind.i64 a11_0, Value.int IntKind.i64 a11_1, Value.int IntKind.i64 a11_2, Value.int IntKind.i64 a11_3], undef, undef, undef, Value.pointer (some { block := gb374, off := 0 }), Value.pointer (some { block := gb375, off := 0 }), Value.pointer (some { block := gb376, off := 0 }), Value.pointer (some { block := gb377, off := 0 }), undef, Value.pointer (some { block := gb378, off := 0 }), undef, undef, Value.pointer (some { block := gb379, off := 0 }), u24, Value.pointer (some { block := gb385, off := 0 }), Value.bool t384, Value.pointer (some { block := gb391, off := 0 }), Value.bool t390, u29, u30, u31, u32, u33, u34, u35, u36, u37, u38, u39, u40, u41, u42, u43, u44, u45, u46, u47, u48, undef, u50, u51, u52, Value.pointer (some { block := gb428, off := 0 }), Value.bool t427, Value.pointer (some { block := gb434, off := 0 }), Value.bool t433, Value.bool t435, Value.bool t436, u59, u60, u61, u62, u63, u64, Value.pointer (some { block := gb456, off := 0 }), Value.bool t455, Value.pointer (some { block := gb462, off := 0 }), Value.bool t461, Value.pointer (some { block := gb468, off := 0 }), Value.bool t467, Value.pointer (some { block := gb474, off := 0 }), Value.bool t473, Value.bool t475, Value.bool t476, Value.bool t477, Value.bool t478, u77, u78, undef, undef, u81, u82, u83, u84, u85, u86, u87, u88, Value.tuple #[Value.agg #[Value.int IntKind.i64 t380, Value.slice Ao37 (List.length t381) co37], Value.bool t384], Value.string a0, Value.int IntKind.i64 a1, Value.int IntKind.i64 a2, Value.tuple #[Value.agg #[Value.int IntKind.i64 t380, Value.slice Ao37 (List.length t381) co37], Value.bool t384], Value.agg #[Value.int IntKind.i64 t380, Value.slice Ao37 (List.length t381) co37], u95, Value.tuple #[Value.agg #[Value.int IntKind.i64 t386, Value.slice Ao48 (List.length t387) co48], Value.bool t390], Value.string a0, Value.int IntKind.i64 a1, u99, u100, u101, u102, u103, u104, u105, u106, u107, u108, u109, u110, u111, u112, u113, u114, u115, u116, u117, u118, u119, u120, u121, u122, u123, u124, u125, u126, u127, u128, u129, u130, u131, u132, u133, u134, u135, u136, u137, u138, u139, u140, u141, u142, u143, u144, u145, u146, u147, u148, u149, u150, u151, u152, u153, u154, u155, u156, u157, u158, u159, u160, u161, u162, u163, u164, u165, u166, u167, u168, u169, u170, u171, u172, u173, u174, u175, u176, u177, u178, u179, u180, u181, u182, u183, u184, u185, u186, u187, u188, u189, u190, u191, u192, u193, u194, u195, u196, u197, u198, u199, u200, u201, u202, u203, u204, u205, u206, u207, u208, u209, u210, u211, u212, u213, u214, u215, u216, u217, u218, u219, u220, u221, u222, u223, u224, u225, u226, u227, u228, u229, u230, u231, u232, u233, u234, u235, u236, u237, u238, u239, u240, u241, u242, u243, u244, u245, u246, u247, u248, u249, u250, u251, u252, u253, u254, u255, Value.tuple #[Value.agg #[Value.int IntKind.i64 t423, Value.slice Ao172 (List.length t424) co172], Value.bool t427], u257, u258, u259, u260, u261, u262, u263, u264, u265, u266, u267, u268, u269, u270, u271, u272, u273, u274, u275, u276, u277, u278, u279, u280, u281, u282, u283, u284, u285, u286, u287, u288, u289, u290, u291, u292, u293, u294, u295, u296, u297, u298, u299, u300, u301, u302, u303, u304, u305, u306, u307, u308, u309, u310, u311, u312, u313, u314, u315, u316, u317, u318, u319, u320, u321, u322, u323, u324, u325, u326, u327, u328, u329, u330, u331, u332, u333, Value.tuple #[Value.agg #[Value.int IntKind.i64 t451, Value.slice Ao282 (List.length t452) co282], Value.bool t455], Value.agg #[Value.int IntKind.i64 a4_0, Value.slice A4_1 (List.length l4_1) c4_1], Value.agg #[Value.int IntKind.i64 a5_0, Value.int IntKind.i64 a5_1, Value.int IntKind.i64 a5_2, Value.int IntKind.i64 a5_3], Value.tuple #[Value.agg #[Value.int IntKind.i64 t451, Value.slice Ao282 (List.length t452) co282], Value.bool t455], Value.agg #[Value.int IntKind.i64 t451, Value.slice Ao282 (List.length t452) co282], u339, Value.tuple #[Value.agg #[Value.int IntKind.i64 t457, Value.slice Ao294 (List.length t458) co294], Value.bool t461], Value.agg #[Value.int IntKind.i64 a4_0, Value.slice A4_1 (List.length l4_1) c4_1], Value.agg #[Value.int IntKind.i64 a5_0, Value.int IntKind.i64 a5_1, Value.int IntKind.i64 a5_2, Value.int IntKind.i64 a5_3], Value.tuple #[Value.agg #[Value.int IntKind.i64 t457, Value.slice Ao294 (List.length t458) co294], Value.bool t461], Value.agg #[Value.int IntKind.i64 t457, Value.slice Ao294 (List.length t458) co294], u345, Value.tuple #[Value.agg #[Value.int IntKind.i64 t463, Value.slice Ao308 (List.length t464) co308], Value.bool t467], Value.agg #[Value.int IntKind.i64 a6_0, Value.slice A6_1 (List.length l6_1) c6_1], Value.int IntKind.i64 a7, Value.tuple #[Value.agg #[Value.int IntKind.i64 t463, Value.slice Ao308 (List.length t464) co308], Value.bool t467], Value.agg #[Value.int IntKind.i64 t463, Value.slice Ao308 (List.length t464) co308], u351, Value.tuple #[Value.agg #[Value.int IntKind.i64 t469, Value.slice Ao321 (List.length t470) co321], Value.bool t473], Value.agg #[Value.int IntKind.i64 a6_0, Value.slice A6_1 (List.length l6_1) c6_1], Value.int IntKind.i64 a7, Value.tuple #[Value.agg #[Value.int IntKind.i64 t469, Value.slice Ao321 (List.length t470) co321], Value.bool t473], u356, u357, u358, u359, u360, u361, u362, u363, u364, u365, u366, u367, u368, u369, u370, u371, u372, u373, u374, u375, u376, u377, u378, u379, u380, u381, u382, u383, u384, u385, u386, u387, u388, u389, u390, u391, u392, u393, u394, u395, u396, u397, u398, u399, u400, u401, u402, u403, u404, u405, u406, u407, u408, u409, u410, u411, u412, u413, u414, u415, u416, u417, u418, u419, u420, u421, u422, u423, u424, u425, u426, u427, u428, u429, u430, u431, u432, u433, u434, u435, u436, u437, u438, u439, u440, u441, u442, u443, u444, u445, u446, undef, undef, undef, undef, undef, undef, undef, undef, undef, undef, undef, undef, undef, undef, undef, undef, undef, undef, undef, undef, undef, undef, undef, undef, undef], defers := [] } wc := by
 conv in cdd _ _ => whnf
 try dsimp only
 cases kq with
 | zero => exact absurd HA.out (by simp [laws_FnRowsHiddenOfAll.j8])
 | succ kj351 =>
  have H := HA.out
  clear HA
  simp only [laws_FnRowsHiddenOfAll.j8] at H
  have HC382 := Aside0.mk H
  clear H
  go_upto_region 62 with (fail)
  go_cut [387, 388, 389, 390, 391, 392, 393, 394, 395, 396, 397, 398, 399, 400, 403, 406, 407, 408, 409, 410, 411, 415, 416, 417, 418, 419, 427, 428, 429, 430, 433, 434, 435, 436, 437, 438, 439, 440, 441, 442, 443, 444, 445, 446, 455] from 9999 (fun _ _ _ _ _ _ _ _ _ _ _ _ _ _ _ _ _ _ _ _ _ _ _ _ _ _ _ _ _ _ _ _ _ _ _ _ _ _ _ _ _ _ _ _ v455 wc => ∃ (kq : Nat) (x455_381 : Bool), v455 = .bool x455_381 ∧ Aside0 (laws_FnRowsHiddenOfAll.j9 kq a7 x455_381 a6_0 l6_1 t463 t464 = some r) ∧ Aside0 (kq ≤ kj351) ∧ Aside0 (Kd.R k26 26 wc w.heap.size (fun _ => True) (.slice Ao308 t464.length co308) t464) ∧ Aside0 (wc.heap[gb377]? = some (.cells #[.int .i64 a6_0, (.slice A6_1 l6_1.length c6_1)] 24 (0, 0))) ∧ Aside0 (wc.heap[gb468]? = some (.cells #[.int .i64 t463, (.slice Ao308 t464.length co308)] 24 (0, 0))) ∧ Aside0 (Below w.heap.size w wc))
  case first =>
   rename_i J7_ K7_ hJ7_ hM7_
   have H := HC382.out
   clear HC382
   by_cases c383 : t467 = true
   ·subst c383
    rw [if_pos rfl] at H
    have H' := Aside0.mk H
    clear H
    have hnb384 := nb NB377_468
    have hcz385_0 : wc.cell? ⟨gb377, 0, none⟩ = some (.int .i64 a6_0) := ec BK377
    have hcz385_1 : wc.cell? ⟨gb377, 1, none⟩ = some (.slice A6_1 l6_1.length c6_1) := ec BK377
    have hfz385_0 := blk_frozen BK377.out 0
    have hfz385_1 := blk_frozen BK377.out 1
    go_wp2
    go_meet
    case rel => exact ⟨_, ((a7 == (wrap64 ((l6_1.length : Int) - 1)))), (rs), H', ⟨by have := HJ12.out; have := HJ26.out; have := HJ155.out; have := HJ223.out; have := HJ263.out; have := HJ351.out; first | omega | exact Nat.le_refl _⟩, ⟨pr HO_469001⟩, ⟨pk BK377⟩, ⟨pk BK468⟩, ⟨bw⟩⟩
   replace c383 := Bool.eq_false_iff.mpr c383
   subst c383
   rw [if_neg (show ¬ (false = true) by decide)] at H
   have H' := Aside0.mk H
   clear H
   go_wp2
   go_meet
   case rel => exact ⟨_, (false), (rs), H', ⟨by have := HJ12.out; have := HJ26.out; have := HJ155.out; have := HJ223.out; have := HJ263.out; have := HJ351.out; first | omega | exact Nat.le_refl _⟩, ⟨pr HO_469001⟩, ⟨pk BK377⟩, ⟨pk BK468⟩, ⟨bw⟩⟩
  case rest =>
   clear HC382
   repeat (first|clear c38|clear c384|clear hcz385_0|clear hcz385_1|clear hfz385_0|clear hfz385_1)
   obtain ⟨kq, x455_381, rfl, HA, HJ381, HO_469001, BK377, BK468, HB⟩ := hcut
   go_step
   exact laws_FnRowsHiddenOfAll.r7 a0 a1 a2 a3_0 A3_1 c3_1 l3_1 a4_0 A4_1 c4_1 l4_1 a5_0 a5_1 a5_2 a5_3 a6_0 A6_1 c6_1 l6_1 a7 a8_0 a8_1 a8_2 a8_3 a9 a10 a11_0 a11_1 a11_2 a11_3 r w HR6_1 HC6_1 HRT gb374 gb375 gb376 gb377 gb378 gb379 u81 u82 u85 u86 t380 t381 t384 t386 t387 t390 gb385 Ao37 co37 gb391 Ao48 co48 u29 u30 u31 u32 u33 u34 u35 u36 u37 u38 u39 u40 u41 u42 u43 u44 u45 u46 u47 u48 u50 u51 u52 u83 u84 u87 u88 u95 u99 u100 u101 u102 u103 u104 u105 u106 u107 u108 u109 u110 u111 u112 u113 u114 u115 u116 u117 u118 u119 u120 u121 u122 u123 u124 u125 u126 u127 u128 u129 u130 u131 u132 u133 u134 u135 u136 u137 u138 u139 u140 u141 u142 u143 u144 u145 u146 u147 u148 u149 u150 u151 u152 u153 u154 u155 u156 u157 u158 u159 u160 u161 u162 u163 u164 u165 u166 u167 u168 u169 u170 u171 u172 u173 u174 u175 u176 u177 u178 u179 u180 u181 u182 u183 u184 u185 u186 u187 u188 u189 u190 u191 u192 u193 u194 u195 u196 u197 u198 u199 u200 u201 u202 u203 u204 u205 u206 u207 u208 u209 u210 u212 u213 u214 u215 u216 u217 u219 u220 u221 u222 u223 u236 u237 u238 u239 u240 u241 u242 u243 u244 u245 u246 u255 t423 t424 t427 t433 t435 t436 gb428 Ao172 co172 gb434 u211 u218 u224 u225 u226 u227 u228 u257 u258 u259 u261 u262 u263 u264 u266 u267 u268 u59 u60 u61 u62 u63 u64 u229 u230 u231 u232 u233 u234 u235 u247 u248 u249 u250 u251 u252 u253 u254 u260 u265 u269 u270 u271 u272 u273 u274 u275 u276 u277 u278 u279 u280 u281 u282 u283 u284 u285 u286 u287 u288 u289 u290 u291 u292 u293 u294 u295 u296 u297 u298 u299 u300 u301 u302 u303 u304 u305 u306 u307 u308 u309 u311 u312 u321 u322 u326 u327 u328 u329 u330 u331 t451 t452 t455 t457 t458 t461 t463 t464 t467 t469 t470 t473 t475 t476 t477 t478 gb456 Ao282 co282 gb462 w286 Ao294 co294 hz297 gb468 w299 NB377_468 Ao308 co308 hz309 gb474 Ao321 co321 u310 u313 u314 u315 u316 u317 u318 u319 u320 u323 u324 u325 u332 u333 u339 u345 u351 u356 u357 u358 u359 u360 u361 u364 u365 u366 u367 u374 u375 u385 u386 u401 u402 u404 u405 u24 u77 u78 u362 u363 u368 u369 u370 u371 u372 u373 u376 u377 u378 u379 u380 u381 u382 u383 u384 u412 u413 u414 u420 u421 u422 u423 u424 u425 u426 u431 u432 kj351 _ (by assumption) wc u387 u388 u389 u390 u391 u392 u393 u394 u395 u396 u397 u398 u399 u400 u403 u406 u407 u408 u409 u410 u411 u415 u416 u417 u418 u419 u427 u428 u429 u430 u433 u434 u435 u436 u437 u438 u439 u440 u441 u442 u443 u444 u445 u446 u447 u448 u449 u450 u451 u452 u453 u454 kq x455_381 HA HJ381 HO_469001 BK377 BK468 HB

set_option maxHeartbeats 80000000 in
set_option maxRecDepth 100000 in
theorem laws_FnRowsHiddenOfAll.r5
 (k : Nat)
 (a0 : ByteArray)
 (a1 a2 a3_0 : Int)
 (A3_1 : Option Addr)
 (c3_1 : Nat)
 (l3_1 : List S26)
 (a4_0 : Int)
 (A4_1 : Option Addr)
 (c4_1 : Nat)
 (l4_1 : List S26)
 (a5_0 a5_1 a5_2 a5_3 a6_0 : Int)
 (A6_1 : Option Addr)
 (c6_1 : Nat)
 (l6_1 : List S26)
 (a7 a8_0 a8_1 a8_2 a8_3 : Int)
 (a9 : ByteArray)
 (a10 a11_0 a11_1 a11_2 a11_3 : Int)
 (r : Bool)
 (w : World)
 (HR4_1 : Aside0 (Kd.C k26 w A4_1 (List.length l4_1) l4_1))
 (HC4_1 : Aside0 (List.length l4_1 ≤ c4_1))
 (HR6_1 : Aside0 (Kd.C k26 w A6_1 (List.length l6_1) l6_1))
 (HC6_1 : Aside0 (List.length l6_1 ≤ c6_1))
 (HRT : Aside0 (r = true))
 (gb374 gb375 gb376 : Nat)
 (NB375_376 : Aside0 (gb375 ≠ gb376))
 (gb377 : Nat)
 (NB375_377 : Aside0 (gb375 ≠ gb377))
 (gb378 gb379 : Nat)
 (u81 u82 u85 u86 : Value)
 (kj12 : Nat)
 (HJ12 : Aside0 (kj12 + 1 ≤ k))
 (t380 : Int)
 (t381 : List S26)
 (t384 : Bool)
 (t386 : Int)
 (t387 : List S26)
 (t390 : Bool)
 (gb385 : Nat)
 (Ao37 : Option Addr)
 (co37 gb391 : Nat)
 (Ao48 : Option Addr)
 (co48 : Nat)
 (u29 u30 u31 u32 u33 u34 u35 u36 u37 u38 u39 u40 u41 u42 u43 u44 u45 u46 u47 u48 u50 u51 u52 u83 u84 u87 u88 u95 u99 u100 u101 u102 u103 u104 u105 u106 u107 u108 u109 u110 u111 u112 u113 u114 u115 u116 u117 u118 u119 u120 u121 u122 u123 u124 u125 u126 u127 u128 u129 u130 u131 u132 u133 u134 u135 u136 u137 u138 u139 u140 u141 u142 u143 u144 u145 u146 u147 u148 u149 u150 u151 u152 u153 u154 u155 u156 u157 u158 u159 u160 u161 u162 u163 u164 u165 u166 u167 u168 u169 u170 u171 u172 u173 u174 u175 u176 u177 u178 u179 u180 u181 u182 u183 u184 u185 u186 u187 u188 u189 u190 u191 u192 u193 u194 u195 u196 u197 u198 u199 u200 u201 u202 u203 u204 u205 u206 u207 u208 u209 u210 u212 u213 u214 u215 u216 u217 u219 u220 u221 u222 u223 u236 u237 u238 u239 u240 u241 u242 u243 u244 u245 u246 u255 : Value)
 (kj26 : Nat)
 (HJ26 : Aside0 (kj26 + 1 ≤ kj12))
 (t423 : Int)
 (t424 : List S26)
 (t427 t433 t435 t436 : Bool)
 (gb428 : Nat)
 (Ao172 : Option Addr)
 (co172 gb434 : Nat)
 (u211 u218 u224 u225 u226 u227 u228 u257 u258 u259 u261 u262 u263 u264 u266 u267 u268 : Value)
 (kj155 : Nat)
 (HJ155 : Aside0 (kj155 + 1 ≤ kj26))
 (u24 u59 u60 u61 u62 u63 u64 u229 u230 u231 u232 u233 u234 u235 u247 u248 u249 u250 u251 u252 u253 u254 u260 u265 u269 u270 u271 u272 u273 u274 u275 u276 u277 u278 u279 u280 u281 u282 u283 u284 u285 u286 u287 u288 u289 u290 u291 u292 u293 u294 u295 u296 u297 u298 u299 u300 u301 u302 u303 u304 u305 u306 u307 u308 u309 u311 u312 u321 u322 u326 u327 u328 u329 u330 u331 : Value)
 (kj223 : Nat)
 (HJ223 : Aside0 (kj223 + 1 ≤ kj155))
 (t451 : Int)
 (t452 : List S26)
 (t455 : Bool)
 (A258 : Aside0 (impl_AddClue.f kj223 a4_0 l4_1 a5_0 a5_1 a5_2 a5_3 = some (t451, t452, t455)))
 (t457 : Int)
 (t458 : List S26)
 (t461 : Bool)
 (t463 : Int)
 (t464 : List S26)
 (t467 : Bool)
 (A260 : Aside0 (impl_DropClue.f kj223 a6_0 l6_1 a7 = some (t463, t464, t467)))
 (t469 : Int)
 (t470 : List S26)
 (t473 t475 t476 t477 t478 : Bool)
 (gb456 : Nat)
 (NB456_375 : Aside0 (gb456 ≠ gb375))
 (NB456_376 : Aside0 (gb456 ≠ gb376))
 (NB456_377 : Aside0 (gb456 ≠ gb377))
 (Ao282 : Option Addr)
 (co282 gb462 : Nat)
 (w286 : World)
 (Ao294 : Option Addr)
 (co294 : Nat)
 (hz297 : World.cell? w286 { block := gb377, off := 0 } = some (Value.int IntKind.i64 a6_0) ∧ World.cell? w286 { block := gb377, off := 1 } = some (Value.slice A6_1 (List.length l6_1) c6_1) ∧ World.frozen? w286 { block := gb377, off := 0 } = false ∧ World.frozen? w286 { block := gb377, off := 1 } = false)
 (gb468 : Nat)
 (w299 : World)
 (NB375_468 : Aside0 (gb375 ≠ gb468))
 (NB377_468 : Aside0 (gb377 ≠ gb468))
 (NB456_468 : Aside0 (gb456 ≠ gb468))
 (Ao308 : Option Addr)
 (co308 : Nat)
 (hz309 : World.cell? w299 { block := gb377, off := 0 } = some (Value.int IntKind.i64 a6_0) ∧ World.cell? w299 { block := gb377, off := 1 } = some (Value.slice A6_1 (List.length l6_1) c6_1) ∧ World.frozen? w299 { block := gb377, off := 0 } = false ∧ World.frozen? w299 { block := gb377, off := 1 } = false)
 (gb474 : Nat)
 (Ao321 : Option Addr)
 (co321 : Nat)
 (w326 : World)
 (HO454 : Aside0 (Kd.R k26 26 w326 (Array.size w.heap) (fun k => (((((True ∧ k ≠ gb376) ∧ k ≠ gb378) ∧ k ≠ gb379) ∧ some k ≠ Value.ownBlock (Value.slice Ao294 (List.length t458) co294)) ∧ some k ≠ Value.ownBlock (Value.slice Ao308 (List.length t464) co308)) ∧ some k ≠ Value.ownBlock (Value.slice Ao321 (List.length t470) co321)) (Value.slice Ao282 (List.length t452) co282) t452))
 (HO460 : Aside0 (Kd.R k26 26 w326 (Array.size w.heap) (fun k => (((((True ∧ some k ≠ Value.ownBlock (Value.slice Ao282 (List.length t452) co282)) ∧ k ≠ gb376) ∧ k ≠ gb378) ∧ k ≠ gb379) ∧ some k ≠ Value.ownBlock (Value.slice Ao308 (List.length t464) co308)) ∧ some k ≠ Value.ownBlock (Value.slice Ao321 (List.length t470) co321)) (Value.slice Ao294 (List.length t458) co294) t458))
 (HO466 : Aside0 (Kd.R k26 26 w326 (Array.size w.heap) (fun k => (((((True ∧ some k ≠ Value.ownBlock (Value.slice Ao282 (List.length t452) co282)) ∧ some k ≠ Value.ownBlock (Value.slice Ao294 (List.length t458) co294)) ∧ k ≠ gb376) ∧ k ≠ gb378) ∧ k ≠ gb379) ∧ some k ≠ Value.ownBlock (Value.slice Ao321 (List.length t470) co321)) (Value.slice Ao308 (List.length t464) co308) t464))
 (HO472 : Aside0 (Kd.R k26 26 w326 (Array.size w.heap) (fun k => (((((True ∧ some k ≠ Value.ownBlock (Value.slice Ao282 (List.length t452) co282)) ∧ some k ≠ Value.ownBlock (Value.slice Ao294 (List.length t458) co294)) ∧ some k ≠ Value.ownBlock (Value.slice Ao308 (List.length t464) co308)) ∧ k ≠ gb376) ∧ k ≠ gb378) ∧ k ≠ gb379) (Value.slice Ao321 (List.length t470) co321) t470))
 (x3_ : Act → World → Prop)
 (x4_ : ∀ (a : Act) (w_1 : World), Code.wp Tryz.prog (cdd Tryz.f3 [1, 1, 1, 1, 1, 1, 1, 1, 1, 1, 1, 1, 1, 1, 1, 1, 1, 1]) (bodyPost Tryz.prog Tryz.f3 fun e w' => e = Ending.returned (Value.bool r) ∧ Below (Array.size w.heap) w w') a w_1 → x3_ a w_1)
 (wc : World)
 (u310 u313 u314 u315 u316 u317 u318 u319 u320 u323 u324 u325 u332 u333 u339 u345 u351 u356 u357 u358 u359 u360 u361 u362 u363 u364 u365 u366 u367 u368 u369 u370 u371 u372 u373 u374 u375 u376 u377 u378 u379 u380 u381 u382 u383 u384 u385 u386 u387 u388 u389 u390 u391 u392 u393 u394 u395 u396 u397 u398 u399 u400 u401 u402 u403 u404 u405 u406 u407 u408 u409 u410 u411 u412 u413 u414 u415 u416 u417 : Value)
 (kq : Nat)
 (x418_263 : Bool)
 (HA : Aside0 (j7 kq a7 t455 t467 x418_263 a4_0 l4_1 a5_0 a5_1 a5_2 a5_3 a6_0 l6_1 t451 t452 t463 t464 = some r))
 (HJ263 : Aside0 (kq ≤ kj223))
 (HO_457001 : Aside0 (Kd.R k26 26 wc (Array.size w.heap) (fun k_ => some k_ ≠ Value.ownBlock (Value.slice Ao308 (List.length t464) co308) ∧ k_ ≠ gb376) (Value.slice Ao282 (List.length t452) co282) t452))
 (HO_469001 : Aside0 (Kd.R k26 26 wc (Array.size w.heap) (fun k_ => some k_ ≠ Value.ownBlock (Value.slice Ao282 (List.length t452) co282) ∧ k_ ≠ gb376) (Value.slice Ao308 (List.length t464) co308) t464))
 (BK375 : Aside0 (wc.heap[gb375]? = some (Obj.cells #[Value.int IntKind.i64 a4_0, Value.slice A4_1 (List.length l4_1) c4_1] 24)))
 (BK376 : Aside0 (wc.heap[gb376]? = some (Obj.cells #[Value.int IntKind.i64 a5_0, Value.int IntKind.i64 a5_1, Value.int IntKind.i64 a5_2, Value.int IntKind.i64 a5_3] 26)))
 (BK377 : Aside0 (wc.heap[gb377]? = some (Obj.cells #[Value.int IntKind.i64 a6_0, Value.slice A6_1 (List.length l6_1) c6_1] 24)))
 (BK456 : Aside0 (wc.heap[gb456]? = some (Obj.cells #[Value.int IntKind.i64 t451, Value.slice Ao282 (List.length t452) co282] 24)))
 (BK468 : Aside0 (wc.heap[gb468]? = some (Obj.cells #[Value.int IntKind.i64 t463, Value.slice Ao308 (List.length t464) co308] 24)))
 (HB : Aside0 (Below (Array.size w.heap) w wc)) :
 Code.wp Tryz.prog (cdd Tryz.f3 [1, 1, 1, 1, 1, 1, 1, 1, 1, 1, 1, 1, 1, 1, 1, 1, 1, 0, 1]) (Exit.then x3_ (bodyPost Tryz.prog Tryz.f3 fun e w' => e = Ending.returned (Value.bool r) ∧ Below (Array.size w.heap) w w')) { tmps := #[Value.string a0, Value.int IntKind.i64 a1, Value.int IntKind.i64 a2, Value.agg #[Value.int IntKind.i64 a3_0, Value.slice A3_1 (List.length l3_1) c3_1], Value.agg #[Value.int IntKind.i64 a4_0, Value.slice A4_1 (List.length l4_1) c4_1], Value.agg #[Value.int IntKind.i64 a5_0, Value.int IntKind.i64 a5_1, Value.int IntKind.i64 a5_2, Value.int IntKind.i64 a5_3], Value.agg #[Value.int IntKind.i64 a6_0, Value.slice A6_1 (List.length l6_1) c6_1], Value.int IntKind.i64 a7, Value.agg #[Value.int IntKind.i64 a8_0, Value.int IntKind.i64 a8_1, Value.int IntKind.i64 a8_2, Value.int IntKind.i64 a8_3], Value.string a9, Value.int IntKind.i64 a10, Value.agg #[Value.int IntKind.i64 a11_0, Value.int IntKind.i64 a11_1, Value.int IntKind.i64 a11_2, Value.int IntKind.i64 a11_3], undef, undef, undef, Value.pointer (some { block := gb374, off := 0 }), Value.pointer (some { block := gb375, off := 0 }), Value.pointer (some { block := gb376, off := 0 }), Value.pointer (some { block := gb377, off := 0 }), undef, Value.pointer (some { block := gb378, off := 0 }), undef, undef, Value.pointer (some { block := gb379, off := 0 }), u24, Value.pointer (some { block := gb385, off := 0 }), Value.bool t384, Value.pointer (some { block := gb391, off := 0 }), Value.bool t390, u29, u30, u31, u32, u33, u34, u35, u36, u37, u38, u39, u40, u41, u42, u43, u44, u45, u46, u47, u48, undef, u50, u51, u52, Value.pointer (some { block := gb428, off := 0 }), Value.bool t427, Value.pointer (some { block := gb434, off := 0 }), Value.bool t433, Value.bool t435, Value.bool t436, u59, u60, u61, u62, u63, u64, Value.pointer (some { block := gb456, off := 0 }), Value.bool t455, Value.pointer (some { block := gb462, off := 0 }), Value.bool t461, Value.pointer (some { block := gb468, off := 0 }), Value.bool t467, Value.pointer (some { block := gb474, off := 0 }), Value.bool t473, Value.bool t475, Value.bool t476, Value.bool t477, Value.bool t478, undef, undef, undef, undef, u81, u82, u83, u84, u85, u86, u87, u88, Value.tuple #[Value.agg #[Value.int IntKind.i64 t380, Value.slice Ao37 (List.length t381) co37], Value.bool t384], Value.string a0, Value.int IntKind.i64 a1, Value.int IntKind.i64 a2, Value.tuple #[Value.agg #[Value.int IntKind.i64 t380, Value.slice Ao37 (List.length t381) co37], Value.bool t384], Value.agg #[Value.int IntKind.i64 t380, Value.slice Ao37 (List.length t381) co37], u95, Value.tuple #[Value.agg #[Value.int IntKind.i64 t386, Value.slice Ao48 (List.length t387) co48], Value.bool t390], Value.string a0, Value.int IntKind.i64 a1, u99, u100, u101, u102, u103, u104, u105, u106, u107, u108, u109, u110, u111, u112, u113, u114, u115, u116, u117, u118, u119, u120, u121, u122, u123, u124, u125, u126, u127, u128, u129, u130, u131, u132, u133, u134, u135, u136, u137, u138, u139, u140, u141, u142, u143, u144, u145, u146, u147, u148, u149, u150, u151, u152, u153, u154, u155, u156, u157, u158, u159, u160, u161, u162, u163, u164, u165, u166, u167, u168, u169, u170, u171, u172, u173, u174, u175, u176, u177, u178, u179, u180, u181, u182, u183, u184, u185, u186, u187, u188, u189, u190, u191, u192, u193, u194, u195, u196, u197, u198, u199, u200, u201, u202, u203, u204, u205, u206, u207, u208, u209, u210, u211, u212, u213, u214, u215, u216, u217, u218, u219, u220, u221, u222, u223, u224, u225, u226, u227, u228, u229, u230, u231, u232, u233, u234, u235, u236, u237, u238, u239, u240, u241, u242, u243, u244, u245, u246, u247, u248, u249, u250, u251, u252, u253, u254, u255, Value.tuple #[Value.agg #[Value.int IntKind.i64 t423, Value.slice Ao172 (List.length t424) co172], Value.bool t427], u257, u258, u259, u260, u261, u262, u263, u264, u265, u266, u267, u268, u269, u270, u271, u272, u273, u274, u275, u276, u277, u278, u279, u280, u281, u282, u283, u284, u285, u286, u287, u288, u289, u290, u291, u292, u293, u294, u295, u296, u297, u298, u299, u300, u301, u302, u303, u304, u305, u306, u307, u308, u309, u310, u311, u312, u313, u314, u315, u316, u317, u318, u319, u320, u321, u322, u323, u324, u325, u326, u327, u328, u329, u330, u331, u332, u333, Value.tuple #[Value.agg #[Value.int IntKind.i64 t451, Value.slice Ao282 (List.length t452) co282], Value.bool t455], Value.agg #[Value.int IntKind.i64 a4_0, Value.slice A4_1 (List.length l4_1) c4_1], Value.agg #[Value.int IntKind.i64 a5_0, Value.int IntKind.i64 a5_1, Value.int IntKind.i64 a5_2, Value.int IntKind.i64 a5_3], Value.tuple #[Value.agg #[Value.int IntKind.i64 t451, Value.slice Ao282 (List.length t452) co282], Value.bool t455], Value.agg #[Value.int IntKind.i64 t451, Value.slice Ao282 (List.length t452) co282], u339, Value.tuple #[Value.agg #[Value.int IntKind.i64 t457, Value.slice Ao294 (List.length t458) co294], Value.bool t461], Value.agg #[Value.int IntKind.i64 a4_0, Value.slice A4_1 (List.length l4_1) c4_1], Value.agg #[Value.int IntKind.i64 a5_0, Value.int IntKind.i64 a5_1, Value.int IntKind.i64 a5_2, Value.int IntKind.i64 a5_3], Value.tuple #[Value.agg #[Value.int IntKind.i64 t457, Value.slice Ao294 (List.length t458) co294], Value.bool t461], Value.agg #[Value.int IntKind.i64 t457, Value.slice Ao294 (List.length t458) co294], u345, Value.tuple #[Value.agg #[Value.int IntKind.i64 t463, Value.slice Ao308 (List.length t464) co308], Value.bool t467], Value.agg #[Value.int IntKind.i64 a6_0, Value.slice A6_1 (List.length l6_1) c6_1], Value.int IntKind.i64 a7, Value.tuple #[Value.agg #[Value.int IntKind.i64 t463, Value.slice Ao308 (List.length t464) co308], Value.bool t467], Value.agg #[Value.int IntKind.i64 t463, Value.slice Ao308 (List.length t464) co308], u351, Value.tuple #[Value.agg #[Value.int IntKind.i64 t469, Value.slice Ao321 (List.length t470) co321], Value.bool t473], Value.agg #[Value.int IntKind.i64 a6_0, Value.slice A6_1 (List.length l6_1) c6_1], Value.int IntKind.i64 a7, Value.tuple #[Value.agg #[Value.int IntKind.i64 t469, Value.slice Ao321 (List.length t470) co321], Value.bool t473], u356, u357, u358, u359, u360, u361, u362, u363, u364, u365, u366, u367, u368, u369, u370, u371, u372, u373, u374, u375, u376, u377, u378, u379, u380, u381, u382, u383, u384, u385, u386, u387, u388, u389, u390, u391, u392, u393, u394, u395, u396, u397, u398, u399, u400, u401, u402, u403, u404, u405, u406, u407, u408, u409, u410, u411, u412, u413, u414, u415, u416, u417, Value.bool x418_263, undef, undef, undef, undef, undef, undef, undef, undef, undef, undef, undef, undef, undef, undef, undef, undef, undef, undef, undef, undef, undef, undef, undef, undef, undef, undef, undef, undef, undef, undef, undef, undef, undef, undef, undef, undef, undef, undef, undef, undef, undef, undef, undef, undef, undef, undef, undef, undef, undef, undef, undef, undef, undef], defers := [] } wc := by
 conv at x4_ in cdd _ _ => whnf
 conv in cdd _ _ => whnf
 try dsimp only
 cases kq with
 | zero => exact absurd HA.out (by simp [laws_FnRowsHiddenOfAll.j7])
 | succ kj263 =>
  have H := HA.out
  clear HA
  simp only [laws_FnRowsHiddenOfAll.j7] at H
  by_cases c351 : x418_263 = true
  ·subst c351
   rw [if_pos rfl] at H
   exact absurd (Option.some.inj H) (by rw [HRT.out]; decide)
  replace c351 := Bool.eq_false_iff.mpr c351
  subst c351
  rw [if_neg (show ¬ (false = true) by decide)] at H
  have HC352 := Aside0.mk H
  clear H
  go_upto_if 419 with (fail)
  go_cut [362, 363, 368, 369, 370, 371, 372, 373, 376, 377, 378, 379, 380, 381, 382, 383, 384, 387, 388, 389, 390, 391, 392, 393, 394, 395, 396, 397, 398, 399, 400, 403, 406, 407, 408, 409, 410, 411, 412, 413, 414, 415, 416, 417, 418, 419] from 9999 (fun _ _ _ _ _ _ _ _ _ _ _ _ _ _ _ _ _ _ _ _ _ _ _ _ _ _ _ _ _ _ _ _ _ _ _ _ _ _ _ _ _ _ _ _ _ _ wc => ∃ (kq : Nat), Aside0 (laws_FnRowsHiddenOfAll.j8 kq a7 t467 a6_0 l6_1 t463 t464 = some r) ∧ Aside0 (kq ≤ kj263) ∧ Aside0 (Kd.R k26 26 wc w.heap.size (fun _ => True) (.slice Ao308 t464.length co308) t464) ∧ Aside0 (wc.heap[gb377]? = some (.cells #[.int .i64 a6_0, (.slice A6_1 l6_1.length c6_1)] 24 (0, 0))) ∧ Aside0 (wc.heap[gb468]? = some (.cells #[.int .i64 t463, (.slice Ao308 t464.length co308)] 24 (0, 0))) ∧ Aside0 (Below w.heap.size w wc))
  case first =>
   rename_i J6_ K6_ hJ6_ hM6_
   have H := HC352.out
   clear HC352
   by_cases c353 : t455 = true
   ·subst c353
    rw [if_pos rfl] at H
    replace H := ob H
    obtain ⟨⟨t484, t485, t488⟩, A354, H⟩ := H
    (try dsimp only at H)
    replace H := ofr HRT H
    obtain ⟨c355, H⟩ := H
    subst c355
    replace H := ob H
    obtain ⟨t490, A356, H⟩ := H
    (try dsimp only at H)
    replace H := ofr HRT H
    obtain ⟨c357, H⟩ := H
    subst c357
    replace H := oi H
    obtain ⟨c358, H⟩ := H
    have c358b0 := decide_eq_true c358
    have c358b1 : decide (0 ≤ l4_1.length) = true := decide_eq_true (by omega)
    clear c358
    (first | rw [c358b0] | rw [@decide_eq_true _ _ (of_decide_eq_true c358b1)] | rw [@decide_eq_false _ _ (of_decide_eq_false c358b1)] | (simp only [i64_w, i32_w]; rw [c358b0]) | skip)
    replace H := oi H
    obtain ⟨c359, H⟩ := H
    have c359b0 := decide_eq_true c359
    have c359b1 : decide (l4_1.length < t452.length) = true := decide_eq_true (Int.ofNat_lt.mp c359)
    clear c359
    replace H := ofl HRT H
    obtain ⟨c360, H⟩ := H
    have c360b0 : (!(((rd_T26 t452 (l4_1.length : Int)).f0) == a5_0) || (!(((rd_T26 t452 (l4_1.length : Int)).f1) == a5_1) || (!(((rd_T26 t452 (l4_1.length : Int)).f2) == a5_2) || (!(((rd_T26 t452 (l4_1.length : Int)).f3) == a5_3))))) = false := by simpa using c360
    clear c360
    have H' := Aside0.mk H
    clear H
    have hnb361 := nb NB456_375
    have hnb362 := nb NB456_376
    have hnb363 := nb NB456_377
    have hnb364 := nb NB456_468
    have hcz365_0 : wc.cell? ⟨gb456, 0, none⟩ = some (.int .i64 t451) := ec BK456
    have hcz365_1 : wc.cell? ⟨gb456, 1, none⟩ = some (.slice Ao282 t452.length co282) := ec BK456
    have hfz365_0 := blk_frozen BK456.out 0
    have hfz365_1 := blk_frozen BK456.out 1
    have hnb366 := nb NB375_376
    have hnb367 := nb NB375_377
    have hnb368 := nb NB375_468
    have hcz369_0 : wc.cell? ⟨gb375, 0, none⟩ = some (.int .i64 a4_0) := ec BK375
    have hcz369_1 : wc.cell? ⟨gb375, 1, none⟩ = some (.slice A4_1 l4_1.length c4_1) := ec BK375
    have hfz369_0 := blk_frozen BK375.out 0
    have hfz369_1 := blk_frozen BK375.out 1
    try go_wp2_with (first | ((with_reducible refine gc 21 ?_); refine gl (some 425) Tryz.func21 #[.agg #[.int .i64 t451, .slice Ao282 t452.length co282], .int .i64 (l4_1.length : Int)] ?_; (with_reducible refine (impl_DropClue.calls kj263 t451 _ _ t452 (l4_1.length : Int) t484 t485 true _ ?_ ?_ A354.out).mono ?_); exact rr HO_457001; exact rn HO_457001; rintro e w370 ⟨v486, rfl, ho0, hb⟩; refine ⟨_, rfl, ?_⟩; have HO487 := Aside0.mk (Kd.R_lower (Kd.R_newB (Kd.R_new' (Kd.R_new' ho0 (Kd.R_lt (pr HO_457001))) (Kd.R_lt (pr HO_469001))) (pk BK376)) (below_size bw)); replace HO_457001 := re HO_457001 ho0 hb; replace HO_469001 := re HO_469001 ho0 hb; replace BK375 := nk BK375 hb; replace BK376 := nk BK376 hb; replace BK377 := nk BK377 hb; replace BK456 := nk BK456 hb; replace BK468 := nk BK468 hb; replace HB := bs hb; (try clear hb); (try clear ho0)) | ((with_reducible refine gd 77 ?_); (try (refine gate_guard (by rfl) ?_; dsimp only)); refine bx 77 24 #[.int .i64 0, .slice none 0 0] ?_; intro gb489 hg w371 hbox hb; replace HO_457001 := rl HO_457001 hb; replace HO_469001 := rl HO_469001 hb; replace HO487 := rl HO487 hb; have BK489 := hbox; have GW489 := gs hg; have GE489 := gs hg; replace HB := bs hb; have ⟨NB375_489, NB489_375⟩ := nn BK375 hg; replace BK375 := nk BK375 hb; have ⟨NB376_489, NB489_376⟩ := nn BK376 hg; replace BK376 := nk BK376 hb; have ⟨NB377_489, NB489_377⟩ := nn BK377 hg; replace BK377 := nk BK377 hb; have ⟨NB456_489, NB489_456⟩ := nn BK456 hg; replace BK456 := nk BK456 hb; have ⟨NB468_489, NB489_468⟩ := nn BK468 hg; replace BK468 := nk BK468 hb; clear hb hbox hg; have hnb372 := nb NB489_375; have hnb373 := nb NB489_376; have hnb374 := nb NB489_377; have hnb375 := nb NB489_456; have hnb376 := nb NB489_468; obtain ⟨hcz377_0, hcz377_1, hfz377_0, hfz377_1⟩ := z2 BK489; obtain ⟨Ao378, co378, eo378⟩ := Kd.R_slice HO487.out; subst eo378))
    have n0_ : Aside0 (Kd.R k26 26 ((w371.setCell ⟨gb489, 0, none⟩ (.int .i64 t484)).setCell ⟨gb489, 1, none⟩ (.slice Ao378 t485.length co378)) w.heap.size (fun k_ => some k_ ≠ (.slice Ao308 t464.length co308 : Value).ownBlock ∧ some k_ ≠ (.slice Ao378 t485.length co378 : Value).ownBlock ∧ k_ ≠ gb376) (.slice Ao282 t452.length co282) t452) := ⟨by (with_reducible repeat (first | apply Kd.R_alloc | apply Kd.R_drewN | apply Kd.R_drew)); exact Kd.R_mono (Kd.R_far (p := ⟨gb489, 1, none⟩) (Kd.R_far (p := ⟨gb489, 0, none⟩) (Kd.R_types HO_457001.out BK489.out (by decide)) (fun _ hk => hk.2) (.int .i64 t484)) (fun _ hk => hk.2) (.slice Ao378 t485.length co378)) (fun _ hk => ⟨hk.1.1.1, ⟨hk.1.2, hk.1.1.2⟩⟩)⟩
    have n1_ : Aside0 (Kd.R k26 26 ((w371.setCell ⟨gb489, 0, none⟩ (.int .i64 t484)).setCell ⟨gb489, 1, none⟩ (.slice Ao378 t485.length co378)) w.heap.size (fun k_ => some k_ ≠ (.slice Ao282 t452.length co282 : Value).ownBlock ∧ some k_ ≠ (.slice Ao378 t485.length co378 : Value).ownBlock ∧ k_ ≠ gb376) (.slice Ao308 t464.length co308) t464) := ⟨by (with_reducible repeat (first | apply Kd.R_alloc | apply Kd.R_drewN | apply Kd.R_drew)); exact Kd.R_mono (Kd.R_far (p := ⟨gb489, 1, none⟩) (Kd.R_far (p := ⟨gb489, 0, none⟩) (Kd.R_types HO_469001.out BK489.out (by decide)) (fun _ hk => hk.2) (.int .i64 t484)) (fun _ hk => hk.2) (.slice Ao378 t485.length co378)) (fun _ hk => ⟨hk.1.1.1, ⟨hk.1.2, hk.1.1.2⟩⟩)⟩
    have n2_ : Aside0 (Kd.R k26 26 ((w371.setCell ⟨gb489, 0, none⟩ (.int .i64 t484)).setCell ⟨gb489, 1, none⟩ (.slice Ao378 t485.length co378)) w.heap.size (fun k_ => some k_ ≠ (.slice Ao282 t452.length co282 : Value).ownBlock ∧ some k_ ≠ (.slice Ao308 t464.length co308 : Value).ownBlock ∧ k_ ≠ gb376) (.slice Ao378 t485.length co378) t485) := ⟨by (with_reducible repeat (first | apply Kd.R_alloc | apply Kd.R_drewN | apply Kd.R_drew)); exact Kd.R_mono (Kd.R_far (p := ⟨gb489, 1, none⟩) (Kd.R_far (p := ⟨gb489, 0, none⟩) (Kd.R_types HO487.out BK489.out (by decide)) (fun _ hk => hk.2) (.int .i64 t484)) (fun _ hk => hk.2) (.slice Ao378 t485.length co378)) (fun _ hk => ⟨hk.1.1.1.2, ⟨hk.1.1.2, hk.1.2⟩⟩)⟩
    have n3_ : Aside0 (((w371.setCell ⟨gb489, 0, none⟩ (.int .i64 t484)).setCell ⟨gb489, 1, none⟩ (.slice Ao378 t485.length co378)).heap[gb375]? = some (.cells #[.int .i64 a4_0, .slice A4_1 l4_1.length c4_1] 24 (0, 0))) := ⟨pf BK375⟩
    have n4_ : Aside0 (((w371.setCell ⟨gb489, 0, none⟩ (.int .i64 t484)).setCell ⟨gb489, 1, none⟩ (.slice Ao378 t485.length co378)).heap[gb376]? = some (.cells #[.int .i64 a5_0, .int .i64 a5_1, .int .i64 a5_2, .int .i64 a5_3] 26 (0, 0))) := ⟨pf BK376⟩
    have n5_ : Aside0 (((w371.setCell ⟨gb489, 0, none⟩ (.int .i64 t484)).setCell ⟨gb489, 1, none⟩ (.slice Ao378 t485.length co378)).heap[gb377]? = some (.cells #[.int .i64 a6_0, .slice A6_1 l6_1.length c6_1] 24 (0, 0))) := ⟨pf BK377⟩
    have n6_ : Aside0 (((w371.setCell ⟨gb489, 0, none⟩ (.int .i64 t484)).setCell ⟨gb489, 1, none⟩ (.slice Ao378 t485.length co378)).heap[gb456]? = some (.cells #[.int .i64 t451, .slice Ao282 t452.length co282] 24 (0, 0))) := ⟨pf BK456⟩
    have n7_ : Aside0 (((w371.setCell ⟨gb489, 0, none⟩ (.int .i64 t484)).setCell ⟨gb489, 1, none⟩ (.slice Ao378 t485.length co378)).heap[gb468]? = some (.cells #[.int .i64 t463, .slice Ao308 t464.length co308] 24 (0, 0))) := ⟨pf BK468⟩
    have n8_ : Aside0 (((w371.setCell ⟨gb489, 0, none⟩ (.int .i64 t484)).setCell ⟨gb489, 1, none⟩ (.slice Ao378 t485.length co378)).heap[gb489]? = some (.cells #[.int .i64 t484, .slice Ao378 t485.length co378] 24 (0, 0))) := ⟨pz BK489⟩
    have n9_ : Aside0 (Below w.heap.size w ((w371.setCell ⟨gb489, 0, none⟩ (.int .i64 t484)).setCell ⟨gb489, 1, none⟩ (.slice Ao378 t485.length co378))) := ⟨bw⟩
    (try clear HO_457001)
    (try clear HO_469001)
    (try clear HO487)
    (try clear BK375)
    (try clear BK376)
    (try clear BK377)
    (try clear BK456)
    (try clear BK468)
    (try clear BK489)
    (try clear HB)
    generalize ((w371.setCell ⟨gb489, 0, none⟩ (.int .i64 t484)).setCell ⟨gb489, 1, none⟩ (.slice Ao378 t485.length co378)) = w379 at n0_ n1_ n2_ n3_ n4_ n5_ n6_ n7_ n8_ n9_ ⊢
    have HO_457001 := n0_
    have HO_469001 := n1_
    have HO487 := n2_
    have BK375 := n3_
    have BK376 := n4_
    have BK377 := n5_
    have BK456 := n6_
    have BK468 := n7_
    have BK489 := n8_
    have HB := n9_
    clear n0_ n1_ n2_ n3_ n4_ n5_ n6_ n7_ n8_ n9_
    replace HO_457001 := Aside0.mk (Kd.R_drew HO_457001.out)
    replace HO_469001 := Aside0.mk (Kd.R_drew HO_469001.out)
    replace HO487 := Aside0.mk (Kd.R_drew HO487.out)
    replace BK375 := Aside0.mk (blk_drew BK375.out)
    replace BK376 := Aside0.mk (blk_drew BK376.out)
    replace BK377 := Aside0.mk (blk_drew BK377.out)
    replace BK456 := Aside0.mk (blk_drew BK456.out)
    replace BK468 := Aside0.mk (blk_drew BK468.out)
    replace BK489 := Aside0.mk (blk_drew BK489.out)
    replace HB := Aside0.mk (below_drew1 HB.out)
    have p491 : 0 ≤ ((l4_1.length : Int) : Int) := of_decide_eq_true asm
    have q491 : (l4_1.length : Int) < (t452.length : Int) := of_decide_eq_true asm
    obtain ⟨ad491, e491, hx491_0, hx491_1, hx491_2, hx491_3⟩ := at_T26 (Kd.R_reads' HO_457001.out).2.2 (l4_1.length : Int) p491 q491
    cases e491
    (try simp only [Go.IntWalk.toNatUp] at hx491_0)
    (try simp only [Go.IntWalk.toNatUp] at hx491_1)
    (try simp only [Go.IntWalk.toNatUp] at hx491_2)
    (try simp only [Go.IntWalk.toNatUp] at hx491_3)
    replace p491 := eq_true p491
    replace q491 := eq_true q491
    refine start_ (n := 19) (S := fun w' => w'.cell? ⟨gb489, 0, none⟩ = some (.int .i64 t484) ∧ w'.cell? ⟨gb489, 1, none⟩ = some (.slice Ao378 t485.length co378) ∧ w'.cell? ⟨gb375, 0, none⟩ = some (.int .i64 a4_0) ∧ w'.cell? ⟨gb375, 1, none⟩ = some (.slice A4_1 l4_1.length c4_1) ∧ w'.cell? ⟨gb456, 0, none⟩ = some (.int .i64 t451) ∧ w'.cell? ⟨gb456, 1, none⟩ = some (.slice (some ad491) t452.length co282) ∧ w'.cell? ⟨gb376, 0, none⟩ = some (.int .i64 a5_0) ∧ w'.cell? ⟨gb376, 1, none⟩ = some (.int .i64 a5_1) ∧ w'.cell? ⟨gb376, 2, none⟩ = some (.int .i64 a5_2) ∧ w'.cell? ⟨gb376, 3, none⟩ = some (.int .i64 a5_3) ∧ w'.cell? (ad491.add (l4_1.length * 4)) = some (.int .i64 ((rd_T26 t452 (l4_1.length : Int)).f0)) ∧ w'.cell? ⟨(ad491.add (l4_1.length * 4)).block, (ad491.add (l4_1.length * 4)).off + 1, none⟩ = some (.int .i64 ((rd_T26 t452 (l4_1.length : Int)).f1)) ∧ w'.cell? ⟨(ad491.add (l4_1.length * 4)).block, (ad491.add (l4_1.length * 4)).off + 2, none⟩ = some (.int .i64 ((rd_T26 t452 (l4_1.length : Int)).f2)) ∧ w'.cell? ⟨(ad491.add (l4_1.length * 4)).block, (ad491.add (l4_1.length * 4)).off + 3, none⟩ = some (.int .i64 ((rd_T26 t452 (l4_1.length : Int)).f3))) (ds := []) (tb 19 0) (by kernel_rfl) rfl rfl ⟨ec BK489, ec BK489, ec BK375, ec BK375, ec BK456, ec BK456, ec BK376, ec BK376, ec BK376, ec BK376, hx491_0, hx491_1, hx491_2, hx491_3⟩ (fun hHeld => ?_); refine with_tabW laws_FnRowsHiddenOfAll.tab60 laws_FnRowsHiddenOfAll.bits60 (fun HT_ HW_ => ?_)
    generalize w379.drew = w380 at HO_457001 HO_469001 HO487 BK375 BK376 BK377 BK456 BK468 BK489 HB hx491_0 hx491_1 hx491_2 hx491_3 hHeld ⊢
    refine pu 0 (some 428) (tb 19 1) ?_
    refine pu 1 (some 429) (tb 19 3) ?_
    refine pu 2 (some 430) (tb 19 7) ?_
    refine tk 3 (some 431) (tb 19 15) (hT := HT_) (hB := HW_) hHeld ?_
    refine tk 4 (some 432) (tb 19 31) (hT := HT_) (hB := HW_) hHeld ?_
    refine one_ (i := 5) (N := some 433) (tb 19 63) rfl rfl (one_of HT_.out (by kernel_rfl)) (by decide) (fun K hK => ?_)
    refine go1 Tryz.func6 #[.agg #[.int .i64 t484, .slice Ao378 t485.length co378], .agg #[.int .i64 a4_0, .slice A4_1 l4_1.length c4_1]] ?_
    with_reducible refine (laws_vPuzzle.calls kj263 t484 _ _ t485 a4_0 _ _ l4_1 true _ ?side1 ?side2 ?side3 ?side4 A356.out).mono ?_
    (case side1 => exact rr HO487)
    (case side2 => exact rn HO487)
    (case side3 => exact cb HR4_1)
    (case side4 => exact HC4_1.out)
    rintro e w381 ⟨rfl, hb⟩
    have HS10_ := (hb.cell (World.block_lt_of_cell? _ _ (hHeld.2.2.2.2.2.2.2.2.2.2.1))).trans (hHeld.2.2.2.2.2.2.2.2.2.2.1)
    have HS11_ := (hb.cell (World.block_lt_of_cell? _ _ (hHeld.2.2.2.2.2.2.2.2.2.2.2.1))).trans (hHeld.2.2.2.2.2.2.2.2.2.2.2.1)
    have HS12_ := (hb.cell (World.block_lt_of_cell? _ _ (hHeld.2.2.2.2.2.2.2.2.2.2.2.2.1))).trans (hHeld.2.2.2.2.2.2.2.2.2.2.2.2.1)
    have HS13_ := (hb.cell (World.block_lt_of_cell? _ _ (hHeld.2.2.2.2.2.2.2.2.2.2.2.2.2))).trans (hHeld.2.2.2.2.2.2.2.2.2.2.2.2.2)
    refine ⟨_, rfl, ?_⟩
    replace HO_457001 := rl HO_457001 hb
    replace HO_469001 := rl HO_469001 hb
    replace HO487 := rl HO487 hb
    replace BK375 := nk BK375 hb
    replace BK376 := nk BK376 hb
    replace BK377 := nk BK377 hb
    replace BK456 := nk BK456 hb
    replace BK468 := nk BK468 hb
    replace BK489 := nk BK489 hb
    replace HB := bs hb
    (try clear hb)
    refine hK.out _ _ ⟨ec BK489, ec BK489, ec BK375, ec BK375, ec BK456, ec BK456, ec BK376, ec BK376, ec BK376, ec BK376, HS10_, HS11_, HS12_, HS13_⟩ (fun hHeld => ?_)
    clear hK K
    refine nm (some 433) ?_
    refine pu 6 (some 434) (tb 19 127) ?_
    refine pu 7 (some 435) (tb 19 255) ?_
    refine pu 8 (some 436) (tb 19 511) ?_
    refine pu 9 (some 437) (tb 19 1023) ?_
    refine pu 11 (some 439) (tb 19 3071) ?_
    refine tk 10 (some 438) (tb 19 4095) (hT := HT_) (hB := HW_) hHeld ?_
    refine tk 12 (some 440) (tb 19 8191) (hT := HT_) (hB := HW_) hHeld ?_
    refine pu 13 (some 441) (tb 19 16383) ?_
    refine pu 14 (some 442) (tb 19 32767) ?_
    refine tk 15 (some 443) (tb 19 65535) (hT := HT_) (hB := HW_) hHeld ?_
    refine tk 16 (some 444) (tb 19 131071) (hT := HT_) (hB := HW_) hHeld ?_
    refine pu 17 (some 445) (tb 19 262143) ?_
    refine pu 18 (some 446) (tb 19 524287) ?_
    refine done_ (done_of HT_.out (by kernel_rfl)) ?_
    try go_wp2
    go_meet
    case rel => exact ⟨_, H', ⟨by have := HJ12.out; have := HJ26.out; have := HJ155.out; have := HJ223.out; have := HJ263.out; first | omega | exact Nat.le_refl _⟩, ⟨by (with_reducible repeat (first | apply Kd.R_alloc | apply Kd.R_drewN | apply Kd.R_drew)); exact Kd.R_mono HO_469001.out (fun _ hk => trivial)⟩, ⟨pk BK377⟩, ⟨pk BK468⟩, ⟨bw⟩⟩
   replace c353 := Bool.eq_false_iff.mpr c353
   subst c353
   rw [if_neg (show ¬ (false = true) by decide)] at H
   have H' := Aside0.mk H
   clear H
   go_wp2
   go_meet
   case rel => exact ⟨_, H', ⟨by have := HJ12.out; have := HJ26.out; have := HJ155.out; have := HJ223.out; have := HJ263.out; first | omega | exact Nat.le_refl _⟩, ⟨by (with_reducible repeat (first | apply Kd.R_alloc | apply Kd.R_drewN | apply Kd.R_drew)); exact Kd.R_mono HO_469001.out (fun _ hk => trivial)⟩, ⟨pk BK377⟩, ⟨pk BK468⟩, ⟨bw⟩⟩
  case rest =>
   clear HC352
   repeat (first|clear c36|clear c37|clear p49|clear q49|clear hx49|clear c358|clear c358b0|clear c358b1|clear c359|clear c359b0|clear c359b1|clear c360|clear c360b0|clear c361|clear c362|clear c363|clear c364|clear c366|clear c367|clear c368|clear c372|clear c373|clear c374|clear c375|clear c376|clear hcz365_0|clear hcz365_1|clear hcz369_0|clear hcz369_1|clear hcz377_0|clear hcz377_1|clear hfz365_0|clear hfz365_1|clear hfz369_0|clear hfz369_1|clear hfz377_0|clear hfz377_1|clear hx491_0|clear hx491_1|clear hx491_2|clear hx491_3|clear p491|clear q491)
   obtain ⟨kq, HA, HJ351, HO_469001, BK377, BK468, HB⟩ := hcut
   go_step
   exact laws_FnRowsHiddenOfAll.r6 k a0 a1 a2 a3_0 A3_1 c3_1 l3_1 a4_0 A4_1 c4_1 l4_1 a5_0 a5_1 a5_2 a5_3 a6_0 A6_1 c6_1 l6_1 a7 a8_0 a8_1 a8_2 a8_3 a9 a10 a11_0 a11_1 a11_2 a11_3 r w HR6_1 HC6_1 HRT gb374 gb375 gb376 gb377 gb378 gb379 u81 u82 u85 u86 kj12 HJ12 t380 t381 t384 t386 t387 t390 gb385 Ao37 co37 gb391 Ao48 co48 u29 u30 u31 u32 u33 u34 u35 u36 u37 u38 u39 u40 u41 u42 u43 u44 u45 u46 u47 u48 u50 u51 u52 u83 u84 u87 u88 u95 u99 u100 u101 u102 u103 u104 u105 u106 u107 u108 u109 u110 u111 u112 u113 u114 u115 u116 u117 u118 u119 u120 u121 u122 u123 u124 u125 u126 u127 u128 u129 u130 u131 u132 u133 u134 u135 u136 u137 u138 u139 u140 u141 u142 u143 u144 u145 u146 u147 u148 u149 u150 u151 u152 u153 u154 u155 u156 u157 u158 u159 u160 u161 u162 u163 u164 u165 u166 u167 u168 u169 u170 u171 u172 u173 u174 u175 u176 u177 u178 u179 u180 u181 u182 u183 u184 u185 u186 u187 u188 u189 u190 u191 u192 u193 u194 u195 u196 u197 u198 u199 u200 u201 u202 u203 u204 u205 u206 u207 u208 u209 u210 u212 u213 u214 u215 u216 u217 u219 u220 u221 u222 u223 u236 u237 u238 u239 u240 u241 u242 u243 u244 u245 u246 u255 kj26 HJ26 t423 t424 t427 t433 t435 t436 gb428 Ao172 co172 gb434 u211 u218 u224 u225 u226 u227 u228 u257 u258 u259 u261 u262 u263 u264 u266 u267 u268 kj155 HJ155 u59 u60 u61 u62 u63 u64 u229 u230 u231 u232 u233 u234 u235 u247 u248 u249 u250 u251 u252 u253 u254 u260 u265 u269 u270 u271 u272 u273 u274 u275 u276 u277 u278 u279 u280 u281 u282 u283 u284 u285 u286 u287 u288 u289 u290 u291 u292 u293 u294 u295 u296 u297 u298 u299 u300 u301 u302 u303 u304 u305 u306 u307 u308 u309 u311 u312 u321 u322 u326 u327 u328 u329 u330 u331 kj223 HJ223 t451 t452 t455 t457 t458 t461 t463 t464 t467 A260 t469 t470 t473 t475 t476 t477 t478 gb456 Ao282 co282 gb462 w286 Ao294 co294 hz297 gb468 w299 NB377_468 Ao308 co308 hz309 gb474 Ao321 co321 u310 u313 u314 u315 u316 u317 u318 u319 u320 u323 u324 u325 u332 u333 u339 u345 u351 u356 u357 u358 u359 u360 u361 u364 u365 u366 u367 u374 u375 u385 u386 u401 u402 u404 u405 kj263 HJ263 wc u24 u77 u78 u362 u363 u368 u369 u370 u371 u372 u373 u376 u377 u378 u379 u380 u381 u382 u383 u384 u387 u388 u389 u390 u391 u392 u393 u394 u395 u396 u397 u398 u399 u400 u403 u406 u407 u408 u409 u410 u411 u412 u413 u414 u415 u416 u417 u418 u419 u420 u421 u422 u423 u424 u425 u426 u427 u428 u429 u430 u431 u432 u433 u434 u435 u436 u437 u438 u439 u440 u441 u442 u443 u444 u445 u446 kq HA HJ351 HO_469001 BK377 BK468 HB

set_option maxHeartbeats 80000000 in
set_option maxRecDepth 100000 in
theorem laws_FnRowsHiddenOfAll.r4
 (k : Nat)
 (a0 : ByteArray)
 (a1 a2 a3_0 : Int)
 (A3_1 : Option Addr)
 (c3_1 : Nat)
 (l3_1 : List S26)
 (a4_0 : Int)
 (A4_1 : Option Addr)
 (c4_1 : Nat)
 (l4_1 : List S26)
 (a5_0 a5_1 a5_2 a5_3 a6_0 : Int)
 (A6_1 : Option Addr)
 (c6_1 : Nat)
 (l6_1 : List S26)
 (a7 a8_0 a8_1 a8_2 a8_3 : Int)
 (a9 : ByteArray)
 (a10 a11_0 a11_1 a11_2 a11_3 : Int)
 (r : Bool)
 (w : World)
 (HR4_1 : Aside0 (Kd.C k26 w A4_1 (List.length l4_1) l4_1))
 (HC4_1 : Aside0 (List.length l4_1 ≤ c4_1))
 (HR6_1 : Aside0 (Kd.C k26 w A6_1 (List.length l6_1) l6_1))
 (HC6_1 : Aside0 (List.length l6_1 ≤ c6_1))
 (HRT : Aside0 (r = true))
 (HMM : Aside0 (Dr.Tab w))
 (gb374 gb375 gb376 : Nat)
 (NB375_376 : Aside0 (gb375 ≠ gb376))
 (gb377 : Nat)
 (NB375_377 : Aside0 (gb375 ≠ gb377))
 (NB376_377 : Aside0 (gb376 ≠ gb377))
 (gb378 : Nat)
 (NB375_378 : Aside0 (gb375 ≠ gb378))
 (NB376_378 : Aside0 (gb376 ≠ gb378))
 (NB377_378 : Aside0 (gb377 ≠ gb378))
 (gb379 : Nat)
 (NB375_379 : Aside0 (gb375 ≠ gb379))
 (NB376_379 : Aside0 (gb376 ≠ gb379))
 (NB377_379 : Aside0 (gb377 ≠ gb379))
 (NB378_379 : Aside0 (gb378 ≠ gb379))
 (u81 u82 u85 u86 : Value)
 (kj12 : Nat)
 (HJ12 : Aside0 (kj12 + 1 ≤ k))
 (t380 : Int)
 (t381 : List S26)
 (t384 : Bool)
 (t386 : Int)
 (t387 : List S26)
 (t390 : Bool)
 (gb385 : Nat)
 (Ao37 : Option Addr)
 (co37 gb391 : Nat)
 (Ao48 : Option Addr)
 (co48 : Nat)
 (u29 u30 u31 u32 u33 u34 u35 u36 u37 u38 u39 u40 u41 u42 u43 u44 u45 u46 u47 u48 u50 u51 u52 u83 u84 u87 u88 u95 u99 u100 u101 u102 u103 u104 u105 u106 u107 u108 u109 u110 u111 u112 u113 u114 u115 u116 u117 u118 u119 u120 u121 u122 u123 u124 u125 u126 u127 u128 u129 u130 u131 u132 u133 u134 u135 u136 u137 u138 u139 u140 u141 u142 u143 u144 u145 u146 u147 u148 u149 u150 u151 u152 u153 u154 u155 u156 u157 u158 u159 u160 u161 u162 u163 u164 u165 u166 u167 u168 u169 u170 u171 u172 u173 u174 u175 u176 u177 u178 u179 u180 u181 u182 u183 u184 u185 u186 u187 u188 u189 u190 u191 u192 u193 u194 u195 u196 u197 u198 u199 u200 u201 u202 u203 u204 u205 u206 u207 u208 u209 u210 u212 u213 u214 u215 u216 u217 u219 u220 u221 u222 u223 u236 u237 u238 u239 u240 u241 u242 u243 u244 u245 u246 u255 : Value)
 (kj26 : Nat)
 (HJ26 : Aside0 (kj26 + 1 ≤ kj12))
 (t423 : Int)
 (t424 : List S26)
 (t427 t433 t435 t436 : Bool)
 (gb428 : Nat)
 (Ao172 : Option Addr)
 (co172 gb434 : Nat)
 (u211 u218 u224 u225 u226 u227 u228 u257 u258 u259 u261 u262 u263 u264 u266 u267 u268 : Value)
 (kj155 : Nat)
 (HJ155 : Aside0 (kj155 + 1 ≤ kj26))
 (wc : World)
 (u24 u59 u60 u61 u62 u63 u64 u229 u230 u231 u232 u233 u234 u235 u247 u248 u249 u250 u251 u252 u253 u254 u260 u265 u269 u270 u271 u272 u273 u274 u275 u276 u277 u278 u279 u280 u281 u282 u283 u284 u285 u286 u287 u288 u289 u290 u291 u292 u293 u294 u295 u296 u297 u298 u299 u300 u301 u302 u303 u304 u305 u306 u307 u308 u309 u310 u311 u312 u313 u314 u315 u316 u317 u318 u319 u320 u321 u322 u323 u324 u325 u326 u327 u328 u329 u330 u331 u332 u333 : Value)
 (kq : Nat)
 (HA : Aside0 (j6 kq a7 a9 a10 a4_0 l4_1 a5_0 a5_1 a5_2 a5_3 a6_0 l6_1 a8_0 a8_1 a8_2 a8_3 a11_0 a11_1 a11_2 a11_3 = some r))
 (HJ223 : Aside0 (kq ≤ kj155))
 (BK375 : Aside0 (wc.heap[gb375]? = some (Obj.cells #[Value.int IntKind.i64 a4_0, Value.slice A4_1 (List.length l4_1) c4_1] 24)))
 (BK376 : Aside0 (wc.heap[gb376]? = some (Obj.cells #[Value.int IntKind.i64 a5_0, Value.int IntKind.i64 a5_1, Value.int IntKind.i64 a5_2, Value.int IntKind.i64 a5_3] 26)))
 (BK377 : Aside0 (wc.heap[gb377]? = some (Obj.cells #[Value.int IntKind.i64 a6_0, Value.slice A6_1 (List.length l6_1) c6_1] 24)))
 (BK378 : Aside0 (wc.heap[gb378]? = some (Obj.cells #[Value.int IntKind.i64 a8_0, Value.int IntKind.i64 a8_1, Value.int IntKind.i64 a8_2, Value.int IntKind.i64 a8_3] 26)))
 (BK379 : Aside0 (wc.heap[gb379]? = some (Obj.cells #[Value.int IntKind.i64 a11_0, Value.int IntKind.i64 a11_1, Value.int IntKind.i64 a11_2, Value.int IntKind.i64 a11_3] 26)))
 (HB : Aside0 (Below (Array.size w.heap) w wc)) :
 Code.wp Tryz.prog (cdd Tryz.f3 [1, 1, 1, 1, 1, 1, 1, 1, 1, 1, 1]) (bodyPost Tryz.prog Tryz.f3 fun e w' => e = Ending.returned (Value.bool r) ∧ Below (Array.size w.heap) w w') { tmps := #[Value.string a0, Value.int IntKind.i64 a1, Value.int IntKind.i64 a2, Value.agg #[Value.int IntKind.i64 a3_0, Value.slice A3_1 (List.length l3_1) c3_1], Value.agg #[Value.int IntKind.i64 a4_0, Value.slice A4_1 (List.length l4_1) c4_1], Value.agg #[Value.int IntKind.i64 a5_0, Value.int IntKind.i64 a5_1, Value.int IntKind.i64 a5_2, Value.int IntKind.i64 a5_3], Value.agg #[Value.int IntKind.i64 a6_0, Value.slice A6_1 (List.length l6_1) c6_1], Value.int IntKind.i64 a7, Value.agg #[Value.int IntKind.i64 a8_0, Value.int IntKind.i64 a8_1, Value.int IntKind.i64 a8_2, Value.int IntKind.i64 a8_3], Value.string a9, Value.int IntKind.i64 a10, Value.agg #[Value.int IntKind.i64 a11_0, Value.int IntKind.i64 a11_1, Value.int IntKind.i64 a11_2, Value.int IntKind.i64 a11_3], undef, undef, undef, Value.pointer (some { block := gb374, off := 0 }), Value.pointer (some { block := gb375, off := 0 }), Value.pointer (some { block := gb376, off := 0 }), Value.pointer (some { block := gb377, off := 0 }), undef, Value.pointer (some { block := gb378, off := 0 }), undef, undef, Value.pointer (some { block := gb379, off := 0 }), u24, Value.pointer (some { block := gb385, off := 0 }), Value.bool t384, Value.pointer (some { block := gb391, off := 0 }), Value.bool t390, u29, u30, u31, u32, u33, u34, u35, u36, u37, u38, u39, u40, u41, u42, u43, u44, u45, u46, u47, u48, undef, u50, u51, u52, Value.pointer (some { block := gb428, off := 0 }), Value.bool t427, Value.pointer (some { block := gb434, off := 0 }), Value.bool t433, Value.bool t435, Value.bool t436, u59, u60, u61, u62, u63, u64, undef, undef, undef, undef, undef, undef, undef, undef, undef, undef, undef, undef, undef, undef, undef, undef, u81, u82, u83, u84, u85, u86, u87, u88, Value.tuple #[Value.agg #[Value.int IntKind.i64 t380, Value.slice Ao37 (List.length t381) co37], Value.bool t384], Value.string a0, Value.int IntKind.i64 a1, Value.int IntKind.i64 a2, Value.tuple #[Value.agg #[Value.int IntKind.i64 t380, Value.slice Ao37 (List.length t381) co37], Value.bool t384], Value.agg #[Value.int IntKind.i64 t380, Value.slice Ao37 (List.length t381) co37], u95, Value.tuple #[Value.agg #[Value.int IntKind.i64 t386, Value.slice Ao48 (List.length t387) co48], Value.bool t390], Value.string a0, Value.int IntKind.i64 a1, u99, u100, u101, u102, u103, u104, u105, u106, u107, u108, u109, u110, u111, u112, u113, u114, u115, u116, u117, u118, u119, u120, u121, u122, u123, u124, u125, u126, u127, u128, u129, u130, u131, u132, u133, u134, u135, u136, u137, u138, u139, u140, u141, u142, u143, u144, u145, u146, u147, u148, u149, u150, u151, u152, u153, u154, u155, u156, u157, u158, u159, u160, u161, u162, u163, u164, u165, u166, u167, u168, u169, u170, u171, u172, u173, u174, u175, u176, u177, u178, u179, u180, u181, u182, u183, u184, u185, u186, u187, u188, u189, u190, u191, u192, u193, u194, u195, u196, u197, u198, u199, u200, u201, u202, u203, u204, u205, u206, u207, u208, u209, u210, u211, u212, u213, u214, u215, u216, u217, u218, u219, u220, u221, u222, u223, u224, u225, u226, u227, u228, u229, u230, u231, u232, u233, u234, u235, u236, u237, u238, u239, u240, u241, u242, u243, u244, u245, u246, u247, u248, u249, u250, u251, u252, u253, u254, u255, Value.tuple #[Value.agg #[Value.int IntKind.i64 t423, Value.slice Ao172 (List.length t424) co172], Value.bool t427], u257, u258, u259, u260, u261, u262, u263, u264, u265, u266, u267, u268, u269, u270, u271, u272, u273, u274, u275, u276, u277, u278, u279, u280, u281, u282, u283, u284, u285, u286, u287, u288, u289, u290, u291, u292, u293, u294, u295, u296, u297, u298, u299, u300, u301, u302, u303, u304, u305, u306, u307, u308, u309, u310, u311, u312, u313, u314, u315, u316, u317, u318, u319, u320, u321, u322, u323, u324, u325, u326, u327, u328, u329, u330, u331, u332, u333, undef, undef, undef, undef, undef, undef, undef, undef, undef, undef, undef, undef, undef, undef, undef, undef, undef, undef, undef, undef, undef, undef, undef, undef, undef, undef, undef, undef, undef, undef, undef, undef, undef, undef, undef, undef, undef, undef, undef, undef, undef, undef, undef, undef, undef, undef, undef, undef, undef, undef, undef, undef, undef, undef, undef, undef, undef, undef, undef, undef, undef, undef, undef, undef, undef, undef, undef, undef, undef, undef, undef, undef, undef, undef, undef, undef, undef, undef, undef, undef, undef, undef, undef, undef, undef, undef, undef, undef, undef, undef, undef, undef, undef, undef, undef, undef, undef, undef, undef, undef, undef, undef, undef, undef, undef, undef, undef, undef, undef, undef, undef, undef, undef, undef, undef, undef, undef, undef, undef, undef, undef, undef, undef, undef, undef, undef, undef, undef, undef, undef, undef, undef, undef, undef, undef, undef, undef, undef], defers := [] } wc := by
 conv in cdd _ _ => whnf
 try dsimp only
 cases kq with
 | zero => exact absurd HA.out (by simp [laws_FnRowsHiddenOfAll.j6])
 | succ kj223 =>
  have H := HA.out
  clear HA
  simp only [laws_FnRowsHiddenOfAll.j6] at H
  replace H := ob H
  obtain ⟨⟨t451, t452, t455⟩, A258, H⟩ := H
  (try dsimp only at H)
  replace H := ob H
  obtain ⟨⟨t457, t458, t461⟩, A259, H⟩ := H
  (try dsimp only at H)
  replace H := ob H
  obtain ⟨⟨t463, t464, t467⟩, A260, H⟩ := H
  (try dsimp only at H)
  replace H := ob H
  obtain ⟨⟨t469, t470, t473⟩, A261, H⟩ := H
  (try dsimp only at H)
  replace H := ob H
  obtain ⟨⟨t475, t476⟩, A262, H⟩ := H
  (try dsimp only at H)
  replace H := ob H
  obtain ⟨⟨t477, t478⟩, A263, H⟩ := H
  (try dsimp only at H)
  have HC264 := Aside0.mk H
  clear H
  have hnb265 := nb NB375_376
  have hnb266 := nb NB375_377
  have hnb267 := nb NB375_378
  have hnb268 := nb NB375_379
  have hcz269_0 : wc.cell? ⟨gb375, 0, none⟩ = some (.int .i64 a4_0) := ec BK375
  have hcz269_1 : wc.cell? ⟨gb375, 1, none⟩ = some (.slice A4_1 l4_1.length c4_1) := ec BK375
  have hfz269_0 := blk_frozen BK375.out 0
  have hfz269_1 := blk_frozen BK375.out 1
  have hnb270 := nb NB376_377
  have hnb271 := nb NB376_378
  have hnb272 := nb NB376_379
  have hcz273_0 : wc.cell? ⟨gb376, 0, none⟩ = some (.int .i64 a5_0) := ec BK376
  have hcz273_1 : wc.cell? ⟨gb376, 1, none⟩ = some (.int .i64 a5_1) := ec BK376
  have hcz273_2 : wc.cell? ⟨gb376, 2, none⟩ = some (.int .i64 a5_2) := ec BK376
  have hcz273_3 : wc.cell? ⟨gb376, 3, none⟩ = some (.int .i64 a5_3) := ec BK376
  have hfz273_0 := blk_frozen BK376.out 0
  have hfz273_1 := blk_frozen BK376.out 1
  have hfz273_2 := blk_frozen BK376.out 2
  have hfz273_3 := blk_frozen BK376.out 3
  go_upto_region 56 with (first | ((with_reducible refine gc 19 ?_); refine gl (some 337) Tryz.func19 #[.agg #[.int .i64 a4_0, .slice A4_1 l4_1.length c4_1], .agg #[.int .i64 a5_0, .int .i64 a5_1, .int .i64 a5_2, .int .i64 a5_3]] ?_; (with_reducible refine (impl_AddClue.calls kj223 a4_0 _ _ l4_1 a5_0 a5_1 a5_2 a5_3 t451 t452 t455 _ ?_ ?_ A258.out).mono ?_); exact cb HR4_1; exact HC4_1.out; rintro e w274 ⟨v453, rfl, ho0, hb⟩; refine ⟨_, rfl, ?_⟩; have HO454 := Aside0.mk (Kd.R_lower (Kd.R_newB (Kd.R_newB (Kd.R_newB ho0 (pk BK376)) (pk BK378)) (pk BK379)) (below_size bw)); replace BK375 := nk BK375 hb; replace BK376 := nk BK376 hb; replace BK377 := nk BK377 hb; replace BK378 := nk BK378 hb; replace BK379 := nk BK379 hb; replace HB := bs hb; (try clear hb); (try clear ho0)) | ((with_reducible refine gd 65 ?_); (try (refine gate_guard (by rfl) ?_; dsimp only)); refine bx 65 24 #[.int .i64 0, .slice none 0 0] ?_; intro gb456 hg w275 hbox hb; replace HO454 := rl HO454 hb; have BK456 := hbox; have GW456 := gs hg; have GE456 := gs hg; replace HB := bs hb; have ⟨NB375_456, NB456_375⟩ := nn BK375 hg; replace BK375 := nk BK375 hb; have ⟨NB376_456, NB456_376⟩ := nn BK376 hg; replace BK376 := nk BK376 hb; have ⟨NB377_456, NB456_377⟩ := nn BK377 hg; replace BK377 := nk BK377 hb; have ⟨NB378_456, NB456_378⟩ := nn BK378 hg; replace BK378 := nk BK378 hb; have ⟨NB379_456, NB456_379⟩ := nn BK379 hg; replace BK379 := nk BK379 hb; clear hb hbox hg; have hnb276 := nb NB456_375; have hnb277 := nb NB456_376; have hnb278 := nb NB456_377; have hnb279 := nb NB456_378; have hnb280 := nb NB456_379; have hz281 := z2 BK456; obtain ⟨Ao282, co282, eo282⟩ := Kd.R_slice HO454.out; subst eo282; have hz283 := z2 BK375; have hz284 := z4 BK376) | ((with_reducible refine gc 20 ?_); refine gl (some 343) Tryz.func20 #[.agg #[.int .i64 a4_0, .slice A4_1 l4_1.length c4_1], .agg #[.int .i64 a5_0, .int .i64 a5_1, .int .i64 a5_2, .int .i64 a5_3]] ?_; (with_reducible refine (spec_AddClue.calls kj223 a4_0 _ _ l4_1 a5_0 a5_1 a5_2 a5_3 t457 t458 t461 _ ?_ ?_ A259.out).mono ?_); exact Kd.C_below HR4_1.out bw; exact HC4_1.out; rintro e w285 ⟨v459, rfl, ho0, hb⟩; refine ⟨_, rfl, ?_⟩; have HO460 := Aside0.mk (Kd.R_lower (Kd.R_newB (Kd.R_newB (Kd.R_newB (Kd.R_new' ho0 (Kd.R_lt (qf HO454))) (pf BK376)) (pf BK378)) (pf BK379)) (below_size bw)); replace HO454 := Aside0.mk (Kd.R_elder' (qf HO454) (Kd.R_base ho0) hb); replace BK375 := nf BK375 hb; replace BK376 := nf BK376 hb; replace BK377 := nf BK377 hb; replace BK378 := nf BK378 hb; replace BK379 := nf BK379 hb; replace BK456 := Aside0.mk (blk_below (g := gb456) (o := .cells #[.int .i64 t451, .slice Ao282 t452.length co282] 24 (0, 0)) (pz BK456) hb); replace HB := bs hb; (try clear hb); (try clear ho0)) | ((with_reducible refine gd 67 ?_); (try (refine gate_guard (by rfl) ?_; dsimp only)); refine bx 67 24 #[.int .i64 0, .slice none 0 0] ?_; intro gb462 hg w286 hbox hb; replace HO454 := rl HO454 hb; replace HO460 := rl HO460 hb; have BK462 := hbox; have GW462 := gs hg; have GE462 := gs hg; replace HB := bs hb; have ⟨NB375_462, NB462_375⟩ := nn BK375 hg; replace BK375 := nk BK375 hb; have ⟨NB376_462, NB462_376⟩ := nn BK376 hg; replace BK376 := nk BK376 hb; have ⟨NB377_462, NB462_377⟩ := nn BK377 hg; replace BK377 := nk BK377 hb; have ⟨NB378_462, NB462_378⟩ := nn BK378 hg; replace BK378 := nk BK378 hb; have ⟨NB379_462, NB462_379⟩ := nn BK379 hg; replace BK379 := nk BK379 hb; have ⟨NB456_462, NB462_456⟩ := nn BK456 hg; replace BK456 := nk BK456 hb; clear hb hbox hg; have hnb287 := nb NB462_375; have hnb288 := nb NB462_376; have hnb289 := nb NB462_377; have hnb290 := nb NB462_378; have hnb291 := nb NB462_379; have hnb292 := nb NB462_456; have hz293 := z2 BK462; obtain ⟨Ao294, co294, eo294⟩ := Kd.R_slice HO460.out; subst eo294; have hnb295 := nb NB377_378; have hnb296 := nb NB377_379; have hz297 := z2 BK377) | ((with_reducible refine gc 21 ?_); refine gl (some 349) Tryz.func21 #[.agg #[.int .i64 a6_0, .slice A6_1 l6_1.length c6_1], .int .i64 a7] ?_; (with_reducible refine (impl_DropClue.calls kj223 a6_0 _ _ l6_1 a7 t463 t464 t467 _ ?_ ?_ A260.out).mono ?_); exact Kd.C_below HR6_1.out bw; exact HC6_1.out; rintro e w298 ⟨v465, rfl, ho0, hb⟩; refine ⟨_, rfl, ?_⟩; have HO466 := Aside0.mk (Kd.R_lower (Kd.R_newB (Kd.R_newB (Kd.R_newB (Kd.R_new' (Kd.R_new' ho0 (Kd.R_lt (qf HO454))) (Kd.R_lt (qf HO460))) (pf BK376)) (pf BK378)) (pf BK379)) (below_size bw)); replace HO454 := Aside0.mk (Kd.R_elder' (qf HO454) (Kd.R_base ho0) hb); replace HO460 := Aside0.mk (Kd.R_elder' (qf HO460) (Kd.R_base ho0) hb); replace BK375 := nf BK375 hb; replace BK376 := nf BK376 hb; replace BK377 := nf BK377 hb; replace BK378 := nf BK378 hb; replace BK379 := nf BK379 hb; replace BK456 := nf BK456 hb; replace BK462 := Aside0.mk (blk_below (g := gb462) (o := .cells #[.int .i64 t457, .slice Ao294 t458.length co294] 24 (0, 0)) (pz BK462) hb); replace HB := bs hb; (try clear hb); (try clear ho0)) | ((with_reducible refine gd 69 ?_); (try (refine gate_guard (by rfl) ?_; dsimp only)); refine bx 69 24 #[.int .i64 0, .slice none 0 0] ?_; intro gb468 hg w299 hbox hb; replace HO454 := rl HO454 hb; replace HO460 := rl HO460 hb; replace HO466 := rl HO466 hb; have BK468 := hbox; have GW468 := gs hg; have GE468 := gs hg; replace HB := bs hb; have ⟨NB375_468, NB468_375⟩ := nn BK375 hg; replace BK375 := nk BK375 hb; have ⟨NB376_468, NB468_376⟩ := nn BK376 hg; replace BK376 := nk BK376 hb; have ⟨NB377_468, NB468_377⟩ := nn BK377 hg; replace BK377 := nk BK377 hb; have ⟨NB378_468, NB468_378⟩ := nn BK378 hg; replace BK378 := nk BK378 hb; have ⟨NB379_468, NB468_379⟩ := nn BK379 hg; replace BK379 := nk BK379 hb; have ⟨NB456_468, NB468_456⟩ := nn BK456 hg; replace BK456 := nk BK456 hb; have ⟨NB462_468, NB468_462⟩ := nn BK462 hg; replace BK462 := nk BK462 hb; clear hb hbox hg; have hnb300 := nb NB468_375; have hnb301 := nb NB468_376; have hnb302 := nb NB468_377; have hnb303 := nb NB468_378; have hnb304 := nb NB468_379; have hnb305 := nb NB468_456; have hnb306 := nb NB468_462; have hz307 := z2 BK468; obtain ⟨Ao308, co308, eo308⟩ := Kd.R_slice HO466.out; subst eo308; have hz309 := z2 BK377) | ((with_reducible refine gc 22 ?_); refine gl (some 355) Tryz.func22 #[.agg #[.int .i64 a6_0, .slice A6_1 l6_1.length c6_1], .int .i64 a7] ?_; (with_reducible refine (spec_DropClue.calls kj223 a6_0 _ _ l6_1 a7 t469 t470 t473 _ ?_ ?_ A261.out).mono ?_); exact Kd.C_below HR6_1.out bw; exact HC6_1.out; rintro e w310 ⟨v471, rfl, ho0, hb⟩; refine ⟨_, rfl, ?_⟩; have HO472 := Aside0.mk (Kd.R_lower (Kd.R_newB (Kd.R_newB (Kd.R_newB (Kd.R_new' (Kd.R_new' (Kd.R_new' ho0 (Kd.R_lt (qf HO454))) (Kd.R_lt (qf HO460))) (Kd.R_lt (qf HO466))) (pf BK376)) (pf BK378)) (pf BK379)) (below_size bw)); replace HO454 := Aside0.mk (Kd.R_elder' (qf HO454) (Kd.R_base ho0) hb); replace HO460 := Aside0.mk (Kd.R_elder' (qf HO460) (Kd.R_base ho0) hb); replace HO466 := Aside0.mk (Kd.R_elder' (qf HO466) (Kd.R_base ho0) hb); replace BK375 := nf BK375 hb; replace BK376 := nf BK376 hb; replace BK377 := nf BK377 hb; replace BK378 := nf BK378 hb; replace BK379 := nf BK379 hb; replace BK456 := nf BK456 hb; replace BK462 := nf BK462 hb; replace BK468 := Aside0.mk (blk_below (g := gb468) (o := .cells #[.int .i64 t463, .slice Ao308 t464.length co308] 24 (0, 0)) (pz BK468) hb); replace HB := bs hb; (try clear hb); (try clear ho0)) | ((with_reducible refine gd 71 ?_); (try (refine gate_guard (by rfl) ?_; dsimp only)); refine bx 71 24 #[.int .i64 0, .slice none 0 0] ?_; intro gb474 hg w311 hbox hb; replace HO454 := rl HO454 hb; replace HO460 := rl HO460 hb; replace HO466 := rl HO466 hb; replace HO472 := rl HO472 hb; have BK474 := hbox; have GW474 := gs hg; have GE474 := gs hg; replace HB := bs hb; have ⟨NB375_474, NB474_375⟩ := nn BK375 hg; replace BK375 := nk BK375 hb; have ⟨NB376_474, NB474_376⟩ := nn BK376 hg; replace BK376 := nk BK376 hb; have ⟨NB377_474, NB474_377⟩ := nn BK377 hg; replace BK377 := nk BK377 hb; have ⟨NB378_474, NB474_378⟩ := nn BK378 hg; replace BK378 := nk BK378 hb; have ⟨NB379_474, NB474_379⟩ := nn BK379 hg; replace BK379 := nk BK379 hb; have ⟨NB456_474, NB474_456⟩ := nn BK456 hg; replace BK456 := nk BK456 hb; have ⟨NB462_474, NB474_462⟩ := nn BK462 hg; replace BK462 := nk BK462 hb; have ⟨NB468_474, NB474_468⟩ := nn BK468 hg; replace BK468 := nk BK468 hb; clear hb hbox hg; have hnb312 := nb NB474_375; have hnb313 := nb NB474_376; have hnb314 := nb NB474_377; have hnb315 := nb NB474_378; have hnb316 := nb NB474_379; have hnb317 := nb NB474_456; have hnb318 := nb NB474_462; have hnb319 := nb NB474_468; have hz320 := z2 BK474; obtain ⟨Ao321, co321, eo321⟩ := Kd.R_slice HO472.out; subst eo321; have hnb322 := nb NB378_379; have hz323 := z4 BK378) | ((with_reducible refine gc 8 ?_); refine gl (some 361) Tryz.func8 #[.agg #[.int .i64 a8_0, .int .i64 a8_1, .int .i64 a8_2, .int .i64 a8_3], .string a9] ?_; (with_reducible refine (impl_DoesFit.calls kj223 a8_0 a8_1 a8_2 a8_3 a9 t475 t476 _ ?_ A262.out).mono ?_); exact Dr.mm HMM; rintro e w324 ⟨rfl, hb⟩; refine ⟨_, rfl, ?_⟩; replace HO454 := Aside0.mk (Kd.R_below (qf HO454) hb); replace HO460 := Aside0.mk (Kd.R_below (qf HO460) hb); replace HO466 := Aside0.mk (Kd.R_below (qf HO466) hb); replace HO472 := Aside0.mk (Kd.R_below (qf HO472) hb); replace BK375 := nf BK375 hb; replace BK376 := nf BK376 hb; replace BK377 := nf BK377 hb; replace BK378 := nf BK378 hb; replace BK379 := nf BK379 hb; replace BK456 := nf BK456 hb; replace BK462 := nf BK462 hb; replace BK468 := nf BK468 hb; replace BK474 := Aside0.mk (blk_below (g := gb474) (o := .cells #[.int .i64 t469, .slice Ao321 t470.length co321] 24 (0, 0)) (pz BK474) hb); replace HB := bs hb; (try clear hb); have hz325 := z4 BK378) | ((with_reducible refine gc 23 ?_); refine gl (some 367) Tryz.func23 #[.agg #[.int .i64 a8_0, .int .i64 a8_1, .int .i64 a8_2, .int .i64 a8_3], .string a9] ?_; (with_reducible refine (spec_DoesFit.calls kj223 a8_0 a8_1 a8_2 a8_3 a9 t477 t478 _ A263.out).mono ?_); rintro e w326 ⟨rfl, hb⟩; refine ⟨_, rfl, ?_⟩; replace HO454 := rl HO454 hb; replace HO460 := rl HO460 hb; replace HO466 := rl HO466 hb; replace HO472 := rl HO472 hb; replace BK375 := nk BK375 hb; replace BK376 := nk BK376 hb; replace BK377 := nk BK377 hb; replace BK378 := nk BK378 hb; replace BK379 := nk BK379 hb; replace BK456 := nk BK456 hb; replace BK462 := nk BK462 hb; replace BK468 := nk BK468 hb; replace BK474 := nk BK474 hb; replace HB := bs hb; (try clear hb)))
  (try simp only [Act.put, List.setIfInBounds_toArray, List.set_cons_zero, List.set_cons_succ])
  go_cut [310, 313, 314, 315, 316, 317, 318, 319, 320, 323, 324, 325, 332, 333, 339, 345, 351, 356, 357, 358, 359, 360, 361, 362, 363, 364, 365, 366, 367, 368, 369, 418] from 9999 (fun _ _ _ _ _ _ _ _ _ _ _ _ _ _ _ _ _ _ _ _ _ _ _ _ _ _ _ _ _ _ _ v418 wc => ∃ (kq : Nat) (x418_263 : Bool), v418 = .bool x418_263 ∧ Aside0 (laws_FnRowsHiddenOfAll.j7 kq a7 t455 t467 x418_263 a4_0 l4_1 a5_0 a5_1 a5_2 a5_3 a6_0 l6_1 t451 t452 t463 t464 = some r) ∧ Aside0 (kq ≤ kj223) ∧ Aside0 (Kd.R k26 26 wc w.heap.size (fun k_ => some k_ ≠ ((.slice Ao308 t464.length co308) : Value).ownBlock ∧ k_ ≠ gb376) (.slice Ao282 t452.length co282) t452) ∧ Aside0 (Kd.R k26 26 wc w.heap.size (fun k_ => some k_ ≠ ((.slice Ao282 t452.length co282) : Value).ownBlock ∧ k_ ≠ gb376) (.slice Ao308 t464.length co308) t464) ∧ Aside0 (wc.heap[gb375]? = some (.cells #[.int .i64 a4_0, (.slice A4_1 l4_1.length c4_1)] 24 (0, 0))) ∧ Aside0 (wc.heap[gb376]? = some (.cells #[.int .i64 a5_0, .int .i64 a5_1, .int .i64 a5_2, .int .i64 a5_3] 26 (0, 0))) ∧ Aside0 (wc.heap[gb377]? = some (.cells #[.int .i64 a6_0, (.slice A6_1 l6_1.length c6_1)] 24 (0, 0))) ∧ Aside0 (wc.heap[gb456]? = some (.cells #[.int .i64 t451, (.slice Ao282 t452.length co282)] 24 (0, 0))) ∧ Aside0 (wc.heap[gb468]? = some (.cells #[.int .i64 t463, (.slice Ao308 t464.length co308)] 24 (0, 0))) ∧ Aside0 (Below w.heap.size w wc))
  case first =>
   rename_i J5_ K5_ hJ5_ hM5_
   have H := HC264.out
   clear HC264
   by_cases c327 : (t455 != t461) = true
   ·rw [if_pos c327] at H
    have c327b0 : (t455 != t461) = true := c327
    (try (have c327b1 : decide (t455 = t461) = false := by simpa using c327))
    (try (have c327b2 : (t455 == t461) = false := by simpa using c327))
    (try (have c327b3 : ¬ (t455 = t461) := by simpa using c327))
    clear c327
    (first | rw [c327b0] | rw [@decide_eq_true _ _ (of_decide_eq_true c327b1)] | rw [@decide_eq_false _ _ (of_decide_eq_false c327b1)] | (simp only [i64_w, i32_w]; rw [c327b0]) | skip)
    exact absurd (Option.some.inj H) (by rw [HRT.out]; decide)
   rw [if_neg c327] at H
   have c327b0 : (t455 != t461) = false := by simpa using c327
   (try (have c327b1 : decide (t455 = t461) = true := by simpa using c327))
   (try (have c327b2 : (t455 == t461) = true := by simpa using c327))
   clear c327
   (first | rw [c327b0] | rw [@decide_eq_true _ _ (of_decide_eq_true c327b1)] | rw [@decide_eq_false _ _ (of_decide_eq_false c327b1)] | (simp only [i64_w, i32_w]; rw [c327b0]) | skip)
   replace H := ob H
   obtain ⟨t479, A328, H⟩ := H
   (try dsimp only at H)
   replace H := ofr HRT H
   obtain ⟨c329, H⟩ := H
   subst c329
   by_cases c330 : (t467 != t473) = true
   ·rw [if_pos c330] at H
    have c330b0 : (t467 != t473) = true := c330
    (try (have c330b1 : decide (t467 = t473) = false := by simpa using c330))
    (try (have c330b2 : (t467 == t473) = false := by simpa using c330))
    (try (have c330b3 : ¬ (t467 = t473) := by simpa using c330))
    clear c330
    exact absurd (Option.some.inj H) (by rw [HRT.out]; decide)
   rw [if_neg c330] at H
   have c330b0 : (t467 != t473) = false := by simpa using c330
   (try (have c330b1 : decide (t467 = t473) = true := by simpa using c330))
   (try (have c330b2 : (t467 == t473) = true := by simpa using c330))
   clear c330
   replace H := ob H
   obtain ⟨t480, A331, H⟩ := H
   (try dsimp only at H)
   replace H := ofr HRT H
   obtain ⟨c332, H⟩ := H
   subst c332
   by_cases c333 : (t476 != t478) = true
   ·rw [if_pos c333] at H
    have c333b0 : (t476 != t478) = true := c333
    (try (have c333b1 : decide (t476 = t478) = false := by simpa using c333))
    (try (have c333b2 : (t476 == t478) = false := by simpa using c333))
    (try (have c333b3 : ¬ (t476 = t478) := by simpa using c333))
    clear c333
    exact absurd (Option.some.inj H) (by rw [HRT.out]; decide)
   rw [if_neg c333] at H
   have c333b0 : (t476 != t478) = false := by simpa using c333
   (try (have c333b1 : decide (t476 = t478) = true := by simpa using c333))
   (try (have c333b2 : (t476 == t478) = true := by simpa using c333))
   clear c333
   by_cases c334 : (t475 != t477) = true
   ·rw [if_pos c334] at H
    have c334b0 : (t475 != t477) = true := c334
    (try (have c334b1 : decide (t475 = t477) = false := by simpa using c334))
    (try (have c334b2 : (t475 == t477) = false := by simpa using c334))
    (try (have c334b3 : ¬ (t475 = t477) := by simpa using c334))
    clear c334
    exact absurd (Option.some.inj H) (by rw [HRT.out]; decide)
   rw [if_neg c334] at H
   have c334b0 : (t475 != t477) = false := by simpa using c334
   (try (have c334b1 : decide (t475 = t477) = true := by simpa using c334))
   (try (have c334b2 : (t475 == t477) = true := by simpa using c334))
   clear c334
   replace H := ob H
   obtain ⟨t481, A335, H⟩ := H
   (try dsimp only at H)
   replace H := ob H
   obtain ⟨t482, A336, H⟩ := H
   (try dsimp only at H)
   by_cases c337 : (t481 != t482) = true
   ·rw [if_pos c337] at H
    have c337b0 : (t481 != t482) = true := c337
    (try (have c337b1 : decide (t481 = t482) = false := by simpa using c337))
    (try (have c337b2 : (t481 == t482) = false := by simpa using c337))
    (try (have c337b3 : ¬ (t481 = t482) := by simpa using c337))
    clear c337
    exact absurd (Option.some.inj H) (by rw [HRT.out]; decide)
   rw [if_neg c337] at H
   have c337b0 : (t481 != t482) = false := by simpa using c337
   (try (have c337b1 : decide (t481 = t482) = true := by simpa using c337))
   (try (have c337b2 : (t481 == t482) = true := by simpa using c337))
   clear c337
   by_cases c338 : t476 = true
   ·subst c338
    rw [if_pos rfl] at H
    replace H := ob H
    obtain ⟨t483, A339, H⟩ := H
    (try dsimp only at H)
    have H' := Aside0.mk H
    clear H
    try go_upto_region 56 with (fail)
    replace HO454 := Aside0.mk (Kd.R_drew HO454.out)
    replace HO460 := Aside0.mk (Kd.R_drew HO460.out)
    replace HO466 := Aside0.mk (Kd.R_drew HO466.out)
    replace HO472 := Aside0.mk (Kd.R_drew HO472.out)
    replace BK375 := Aside0.mk (blk_drew BK375.out)
    replace BK376 := Aside0.mk (blk_drew BK376.out)
    replace BK377 := Aside0.mk (blk_drew BK377.out)
    replace BK378 := Aside0.mk (blk_drew BK378.out)
    replace BK379 := Aside0.mk (blk_drew BK379.out)
    replace BK456 := Aside0.mk (blk_drew BK456.out)
    replace BK462 := Aside0.mk (blk_drew BK462.out)
    replace BK468 := Aside0.mk (blk_drew BK468.out)
    replace BK474 := Aside0.mk (blk_drew BK474.out)
    replace HB := Aside0.mk (below_drew1 HB.out)
    refine start_ (n := 49) (S := fun w' => w'.cell? ⟨gb456, 0, none⟩ = some (.int .i64 t451) ∧ w'.cell? ⟨gb456, 1, none⟩ = some (.slice Ao282 t452.length co282) ∧ w'.cell? ⟨gb462, 0, none⟩ = some (.int .i64 t457) ∧ w'.cell? ⟨gb462, 1, none⟩ = some (.slice Ao294 t458.length co294) ∧ w'.cell? ⟨gb468, 0, none⟩ = some (.int .i64 t463) ∧ w'.cell? ⟨gb468, 1, none⟩ = some (.slice Ao308 t464.length co308) ∧ w'.cell? ⟨gb474, 0, none⟩ = some (.int .i64 t469) ∧ w'.cell? ⟨gb474, 1, none⟩ = some (.slice Ao321 t470.length co321) ∧ w'.cell? ⟨gb379, 0, none⟩ = some (.int .i64 a11_0) ∧ w'.cell? ⟨gb379, 1, none⟩ = some (.int .i64 a11_1) ∧ w'.cell? ⟨gb379, 2, none⟩ = some (.int .i64 a11_2) ∧ w'.cell? ⟨gb379, 3, none⟩ = some (.int .i64 a11_3) ∧ w'.cell? ⟨gb378, 0, none⟩ = some (.int .i64 a8_0) ∧ w'.cell? ⟨gb378, 1, none⟩ = some (.int .i64 a8_1) ∧ w'.cell? ⟨gb378, 2, none⟩ = some (.int .i64 a8_2) ∧ w'.cell? ⟨gb378, 3, none⟩ = some (.int .i64 a8_3)) (ds := []) (tb 49 0) (by kernel_rfl) rfl rfl ⟨ec BK456, ec BK456, ec BK462, ec BK462, ec BK468, ec BK468, ec BK474, ec BK474, ec BK379, ec BK379, ec BK379, ec BK379, ec BK378, ec BK378, ec BK378, ec BK378⟩ (fun hHeld => ?_); refine with_tabW laws_FnRowsHiddenOfAll.tab56 laws_FnRowsHiddenOfAll.bits56 (fun HT_ HW_ => ?_)
    generalize w326.drew = w340 at HO454 HO460 HO466 HO472 BK375 BK376 BK377 BK378 BK379 BK456 BK462 BK468 BK474 HB hHeld ⊢
    refine pu 0 (some 370) (tb 49 1) ?_
    refine pu 1 (some 371) (tb 49 3) ?_
    refine pu 2 (some 372) (tb 49 7) ?_
    refine pu 3 (some 373) (tb 49 15) ?_
    refine tk 4 (some 374) (tb 49 31) (hT := HT_) (hB := HW_) hHeld ?_
    refine tk 5 (some 375) (tb 49 63) (hT := HT_) (hB := HW_) hHeld ?_
    refine one_ (i := 6) (N := some 376) (tb 49 127) rfl rfl (one_of HT_.out (by kernel_rfl)) (by decide) (fun K hK => ?_)
    refine go1 Tryz.func6 #[.agg #[.int .i64 t451, .slice Ao282 t452.length co282], .agg #[.int .i64 t457, .slice Ao294 t458.length co294]] ?_
    with_reducible refine (laws_vPuzzle.calls kj223 t451 _ _ t452 t457 _ _ t458 true _ ?side1 ?side2 ?side3 ?side4 A328.out).mono ?_
    (case side1 => exact rr HO454)
    (case side2 => exact rn HO454)
    (case side3 => exact rr HO460)
    (case side4 => exact rn HO460)
    rintro e w341 ⟨rfl, hb⟩
    refine ⟨_, rfl, ?_⟩
    replace HO454 := rl HO454 hb
    replace HO460 := rl HO460 hb
    replace HO466 := rl HO466 hb
    replace HO472 := rl HO472 hb
    replace BK375 := nk BK375 hb
    replace BK376 := nk BK376 hb
    replace BK377 := nk BK377 hb
    replace BK378 := nk BK378 hb
    replace BK379 := nk BK379 hb
    replace BK456 := nk BK456 hb
    replace BK462 := nk BK462 hb
    replace BK468 := nk BK468 hb
    replace BK474 := nk BK474 hb
    replace HB := bs hb
    (try clear hb)
    refine hK.out _ _ ⟨ec BK456, ec BK456, ec BK462, ec BK462, ec BK468, ec BK468, ec BK474, ec BK474, ec BK379, ec BK379, ec BK379, ec BK379, ec BK378, ec BK378, ec BK378, ec BK378⟩ (fun hHeld => ?_)
    clear hK K
    refine nm (some 376) ?_
    refine pu 7 (some 377) (tb 49 255) ?_
    refine pu 8 (some 378) (tb 49 511) ?_
    refine pu 9 (some 379) (tb 49 1023) ?_
    refine pu 10 (some 380) (tb 49 2047) ?_
    refine pu 11 (some 381) (tb 49 4095) ?_
    refine pu 12 (some 382) (tb 49 8191) ?_
    refine pu 13 (some 383) (tb 49 16383) ?_
    refine pu 14 (some 384) (tb 49 32767) ?_
    refine tk 15 (some 385) (tb 49 65535) (hT := HT_) (hB := HW_) hHeld ?_
    refine tk 16 (some 386) (tb 49 131071) (hT := HT_) (hB := HW_) hHeld ?_
    refine one_ (i := 17) (N := some 387) (tb 49 262143) rfl rfl (one_of HT_.out (by kernel_rfl)) (by decide) (fun K hK => ?_)
    refine go1 Tryz.func6 #[.agg #[.int .i64 t463, .slice Ao308 t464.length co308], .agg #[.int .i64 t469, .slice Ao321 t470.length co321]] ?_
    with_reducible refine (laws_vPuzzle.calls kj223 t463 _ _ t464 t469 _ _ t470 true _ ?side1 ?side2 ?side3 ?side4 A331.out).mono ?_
    (case side1 => exact rr HO466)
    (case side2 => exact rn HO466)
    (case side3 => exact rr HO472)
    (case side4 => exact rn HO472)
    rintro e w342 ⟨rfl, hb⟩
    refine ⟨_, rfl, ?_⟩
    replace HO454 := rl HO454 hb
    replace HO460 := rl HO460 hb
    replace HO466 := rl HO466 hb
    replace HO472 := rl HO472 hb
    replace BK375 := nk BK375 hb
    replace BK376 := nk BK376 hb
    replace BK377 := nk BK377 hb
    replace BK378 := nk BK378 hb
    replace BK379 := nk BK379 hb
    replace BK456 := nk BK456 hb
    replace BK462 := nk BK462 hb
    replace BK468 := nk BK468 hb
    replace BK474 := nk BK474 hb
    replace HB := bs hb
    (try clear hb)
    refine hK.out _ _ ⟨ec BK456, ec BK456, ec BK462, ec BK462, ec BK468, ec BK468, ec BK474, ec BK474, ec BK379, ec BK379, ec BK379, ec BK379, ec BK378, ec BK378, ec BK378, ec BK378⟩ (fun hHeld => ?_)
    clear hK K
    refine nm (some 387) ?_
    refine pu 18 (some 388) (tb 49 524287) ?_
    refine pu 19 (some 389) (tb 49 1048575) ?_
    refine pu 20 (some 390) (tb 49 2097151) ?_
    refine pu 21 (some 391) (tb 49 4194303) ?_
    refine pu 22 (some 392) (tb 49 8388607) ?_
    refine pu 23 (some 393) (tb 49 16777215) ?_
    refine pu 24 (some 394) (tb 49 33554431) ?_
    refine pu 25 (some 395) (tb 49 67108863) ?_
    refine pu 26 (some 396) (tb 49 134217727) ?_
    refine pu 27 (some 397) (tb 49 268435455) ?_
    refine pu 28 (some 398) (tb 49 536870911) ?_
    refine pu 29 (some 399) (tb 49 1073741823) ?_
    refine pu 30 (some 400) (tb 49 2147483647) ?_
    refine pu 31 (some 401) (tb 49 4294967295) ?_
    refine pu 34 (some 404) (tb 49 21474836479) ?_
    refine tk 32 (some 402) (tb 49 25769803775) (hT := HT_) (hB := HW_) hHeld ?_
    refine tk 35 (some 405) (tb 49 60129542143) (hT := HT_) (hB := HW_) hHeld ?_
    refine one_ (i := 33) (N := some 403) (tb 49 68719476735) rfl rfl (one_of HT_.out (by kernel_rfl)) (by decide) (fun K hK => ?_)
    refine go1 Tryz.func24 #[.int .i64 a10, .agg #[.int .i64 a11_0, .int .i64 a11_1, .int .i64 a11_2, .int .i64 a11_3]] ?_
    with_reducible refine (impl_IsClue.calls a10 a11_0 a11_1 a11_2 a11_3 t481 _ A335.out).mono ?_
    rintro e w343 ⟨rfl, hb⟩
    refine ⟨_, rfl, ?_⟩
    replace HO454 := rl HO454 hb
    replace HO460 := rl HO460 hb
    replace HO466 := rl HO466 hb
    replace HO472 := rl HO472 hb
    replace BK375 := nk BK375 hb
    replace BK376 := nk BK376 hb
    replace BK377 := nk BK377 hb
    replace BK378 := nk BK378 hb
    replace BK379 := nk BK379 hb
    replace BK456 := nk BK456 hb
    replace BK462 := nk BK462 hb
    replace BK468 := nk BK468 hb
    replace BK474 := nk BK474 hb
    replace HB := bs hb
    (try clear hb)
    refine hK.out _ _ ⟨ec BK456, ec BK456, ec BK462, ec BK462, ec BK468, ec BK468, ec BK474, ec BK474, ec BK379, ec BK379, ec BK379, ec BK379, ec BK378, ec BK378, ec BK378, ec BK378⟩ (fun hHeld => ?_)
    clear hK K
    refine nm (some 403) ?_
    refine one_ (i := 36) (N := some 406) (tb 49 137438953471) rfl rfl (one_of HT_.out (by kernel_rfl)) (by decide) (fun K hK => ?_)
    refine go1 Tryz.func25 #[.int .i64 a10, .agg #[.int .i64 a11_0, .int .i64 a11_1, .int .i64 a11_2, .int .i64 a11_3]] ?_
    with_reducible refine (spec_IsClue.calls a10 a11_0 a11_1 a11_2 a11_3 t482 _ A336.out).mono ?_
    rintro e w344 ⟨rfl, hb⟩
    refine ⟨_, rfl, ?_⟩
    replace HO454 := rl HO454 hb
    replace HO460 := rl HO460 hb
    replace HO466 := rl HO466 hb
    replace HO472 := rl HO472 hb
    replace BK375 := nk BK375 hb
    replace BK376 := nk BK376 hb
    replace BK377 := nk BK377 hb
    replace BK378 := nk BK378 hb
    replace BK379 := nk BK379 hb
    replace BK456 := nk BK456 hb
    replace BK462 := nk BK462 hb
    replace BK468 := nk BK468 hb
    replace BK474 := nk BK474 hb
    replace HB := bs hb
    (try clear hb)
    refine hK.out _ _ ⟨ec BK456, ec BK456, ec BK462, ec BK462, ec BK468, ec BK468, ec BK474, ec BK474, ec BK379, ec BK379, ec BK379, ec BK379, ec BK378, ec BK378, ec BK378, ec BK378⟩ (fun hHeld => ?_)
    clear hK K
    refine nm (some 406) ?_
    refine pu 37 (some 407) (tb 49 274877906943) ?_
    refine pu 38 (some 408) (tb 49 549755813887) ?_
    refine pu 39 (some 409) (tb 49 1099511627775) ?_
    refine pu 40 (some 410) (tb 49 2199023255551) ?_
    refine pu 41 (some 411) (tb 49 4398046511103) ?_
    refine pu 42 (some 412) (tb 49 8796093022207) ?_
    refine pu 43 (some 413) (tb 49 17592186044415) ?_
    refine tk 44 (some 414) (tb 49 35184372088831) (hT := HT_) (hB := HW_) hHeld ?_
    refine one_ (i := 45) (N := some 415) (tb 49 70368744177663) rfl rfl (one_of HT_.out (by kernel_rfl)) (by decide) (fun K hK => ?_)
    refine go1 Tryz.func24 #[.int .i64 (a9.size : Int), .agg #[.int .i64 a8_0, .int .i64 a8_1, .int .i64 a8_2, .int .i64 a8_3]] ?_
    with_reducible refine (impl_IsClue.calls (a9.size : Int) a8_0 a8_1 a8_2 a8_3 t483 _ A339.out).mono ?_
    rintro e w345 ⟨rfl, hb⟩
    refine ⟨_, rfl, ?_⟩
    replace HO454 := rl HO454 hb
    replace HO460 := rl HO460 hb
    replace HO466 := rl HO466 hb
    replace HO472 := rl HO472 hb
    replace BK375 := nk BK375 hb
    replace BK376 := nk BK376 hb
    replace BK377 := nk BK377 hb
    replace BK378 := nk BK378 hb
    replace BK379 := nk BK379 hb
    replace BK456 := nk BK456 hb
    replace BK462 := nk BK462 hb
    replace BK468 := nk BK468 hb
    replace BK474 := nk BK474 hb
    replace HB := bs hb
    (try clear hb)
    refine hK.out _ _ ⟨ec BK456, ec BK456, ec BK462, ec BK462, ec BK468, ec BK468, ec BK474, ec BK474, ec BK379, ec BK379, ec BK379, ec BK379, ec BK378, ec BK378, ec BK378, ec BK378⟩ (fun hHeld => ?_)
    clear hK K
    refine nm (some 415) ?_
    refine pu 46 (some 416) (tb 49 140737488355327) ?_
    refine pu 47 (some 417) (tb 49 281474976710655) ?_
    refine pu 48 (some 418) (tb 49 562949953421311) ?_
    refine done_ (done_of HT_.out (by kernel_rfl)) ?_
    try go_wp2
    go_meet
    case rel => exact ⟨_, (!t483), (rs), H', ⟨by have := HJ12.out; have := HJ26.out; have := HJ155.out; have := HJ223.out; first | omega | exact Nat.le_refl _⟩, ⟨by (with_reducible repeat (first | apply Kd.R_alloc | apply Kd.R_drewN | apply Kd.R_drew)); exact Kd.R_mono HO454.out (fun _ hk => ⟨hk.1.2, hk.1.1.1.1.1.2⟩)⟩, ⟨by (with_reducible repeat (first | apply Kd.R_alloc | apply Kd.R_drewN | apply Kd.R_drew)); exact Kd.R_mono HO466.out (fun _ hk => ⟨hk.1.1.1.1.1.2, hk.1.1.1.2⟩)⟩, ⟨pk BK375⟩, ⟨pk BK376⟩, ⟨pk BK377⟩, ⟨pk BK456⟩, ⟨pk BK468⟩, ⟨bw⟩⟩
   replace c338 := Bool.eq_false_iff.mpr c338
   subst c338
   rw [if_neg (show ¬ (false = true) by decide)] at H
   have H' := Aside0.mk H
   clear H
   try go_upto_region 56 with (fail)
   replace HO454 := Aside0.mk (Kd.R_drew HO454.out)
   replace HO460 := Aside0.mk (Kd.R_drew HO460.out)
   replace HO466 := Aside0.mk (Kd.R_drew HO466.out)
   replace HO472 := Aside0.mk (Kd.R_drew HO472.out)
   replace BK375 := Aside0.mk (blk_drew BK375.out)
   replace BK376 := Aside0.mk (blk_drew BK376.out)
   replace BK377 := Aside0.mk (blk_drew BK377.out)
   replace BK378 := Aside0.mk (blk_drew BK378.out)
   replace BK379 := Aside0.mk (blk_drew BK379.out)
   replace BK456 := Aside0.mk (blk_drew BK456.out)
   replace BK462 := Aside0.mk (blk_drew BK462.out)
   replace BK468 := Aside0.mk (blk_drew BK468.out)
   replace BK474 := Aside0.mk (blk_drew BK474.out)
   replace HB := Aside0.mk (below_drew1 HB.out)
   refine start_ (n := 49) (S := fun w' => w'.cell? ⟨gb456, 0, none⟩ = some (.int .i64 t451) ∧ w'.cell? ⟨gb456, 1, none⟩ = some (.slice Ao282 t452.length co282) ∧ w'.cell? ⟨gb462, 0, none⟩ = some (.int .i64 t457) ∧ w'.cell? ⟨gb462, 1, none⟩ = some (.slice Ao294 t458.length co294) ∧ w'.cell? ⟨gb468, 0, none⟩ = some (.int .i64 t463) ∧ w'.cell? ⟨gb468, 1, none⟩ = some (.slice Ao308 t464.length co308) ∧ w'.cell? ⟨gb474, 0, none⟩ = some (.int .i64 t469) ∧ w'.cell? ⟨gb474, 1, none⟩ = some (.slice Ao321 t470.length co321) ∧ w'.cell? ⟨gb379, 0, none⟩ = some (.int .i64 a11_0) ∧ w'.cell? ⟨gb379, 1, none⟩ = some (.int .i64 a11_1) ∧ w'.cell? ⟨gb379, 2, none⟩ = some (.int .i64 a11_2) ∧ w'.cell? ⟨gb379, 3, none⟩ = some (.int .i64 a11_3)) (ds := []) (tb 49 0) (by kernel_rfl) rfl rfl ⟨ec BK456, ec BK456, ec BK462, ec BK462, ec BK468, ec BK468, ec BK474, ec BK474, ec BK379, ec BK379, ec BK379, ec BK379⟩ (fun hHeld => ?_); refine with_tabW laws_FnRowsHiddenOfAll.tab56 laws_FnRowsHiddenOfAll.bits56 (fun HT_ HW_ => ?_)
   generalize w326.drew = w346 at HO454 HO460 HO466 HO472 BK375 BK376 BK377 BK378 BK379 BK456 BK462 BK468 BK474 HB hHeld ⊢
   refine pu 0 (some 370) (tb 49 1) ?_
   refine pu 1 (some 371) (tb 49 3) ?_
   refine pu 2 (some 372) (tb 49 7) ?_
   refine pu 3 (some 373) (tb 49 15) ?_
   refine tk 4 (some 374) (tb 49 31) (hT := HT_) (hB := HW_) hHeld ?_
   refine tk 5 (some 375) (tb 49 63) (hT := HT_) (hB := HW_) hHeld ?_
   refine one_ (i := 6) (N := some 376) (tb 49 127) rfl rfl (one_of HT_.out (by kernel_rfl)) (by decide) (fun K hK => ?_)
   refine go1 Tryz.func6 #[.agg #[.int .i64 t451, .slice Ao282 t452.length co282], .agg #[.int .i64 t457, .slice Ao294 t458.length co294]] ?_
   with_reducible refine (laws_vPuzzle.calls kj223 t451 _ _ t452 t457 _ _ t458 true _ ?side1 ?side2 ?side3 ?side4 A328.out).mono ?_
   (case side1 => exact rr HO454)
   (case side2 => exact rn HO454)
   (case side3 => exact rr HO460)
   (case side4 => exact rn HO460)
   rintro e w347 ⟨rfl, hb⟩
   refine ⟨_, rfl, ?_⟩
   replace HO454 := rl HO454 hb
   replace HO460 := rl HO460 hb
   replace HO466 := rl HO466 hb
   replace HO472 := rl HO472 hb
   replace BK375 := nk BK375 hb
   replace BK376 := nk BK376 hb
   replace BK377 := nk BK377 hb
   replace BK378 := nk BK378 hb
   replace BK379 := nk BK379 hb
   replace BK456 := nk BK456 hb
   replace BK462 := nk BK462 hb
   replace BK468 := nk BK468 hb
   replace BK474 := nk BK474 hb
   replace HB := bs hb
   (try clear hb)
   refine hK.out _ _ ⟨ec BK456, ec BK456, ec BK462, ec BK462, ec BK468, ec BK468, ec BK474, ec BK474, ec BK379, ec BK379, ec BK379, ec BK379⟩ (fun hHeld => ?_)
   clear hK K
   refine nm (some 376) ?_
   refine pu 7 (some 377) (tb 49 255) ?_
   refine pu 8 (some 378) (tb 49 511) ?_
   refine pu 9 (some 379) (tb 49 1023) ?_
   refine pu 10 (some 380) (tb 49 2047) ?_
   refine pu 11 (some 381) (tb 49 4095) ?_
   refine pu 12 (some 382) (tb 49 8191) ?_
   refine pu 13 (some 383) (tb 49 16383) ?_
   refine pu 14 (some 384) (tb 49 32767) ?_
   refine tk 15 (some 385) (tb 49 65535) (hT := HT_) (hB := HW_) hHeld ?_
   refine tk 16 (some 386) (tb 49 131071) (hT := HT_) (hB := HW_) hHeld ?_
   refine one_ (i := 17) (N := some 387) (tb 49 262143) rfl rfl (one_of HT_.out (by kernel_rfl)) (by decide) (fun K hK => ?_)
   refine go1 Tryz.func6 #[.agg #[.int .i64 t463, .slice Ao308 t464.length co308], .agg #[.int .i64 t469, .slice Ao321 t470.length co321]] ?_
   with_reducible refine (laws_vPuzzle.calls kj223 t463 _ _ t464 t469 _ _ t470 true _ ?side1 ?side2 ?side3 ?side4 A331.out).mono ?_
   (case side1 => exact rr HO466)
   (case side2 => exact rn HO466)
   (case side3 => exact rr HO472)
   (case side4 => exact rn HO472)
   rintro e w348 ⟨rfl, hb⟩
   refine ⟨_, rfl, ?_⟩
   replace HO454 := rl HO454 hb
   replace HO460 := rl HO460 hb
   replace HO466 := rl HO466 hb
   replace HO472 := rl HO472 hb
   replace BK375 := nk BK375 hb
   replace BK376 := nk BK376 hb
   replace BK377 := nk BK377 hb
   replace BK378 := nk BK378 hb
   replace BK379 := nk BK379 hb
   replace BK456 := nk BK456 hb
   replace BK462 := nk BK462 hb
   replace BK468 := nk BK468 hb
   replace BK474 := nk BK474 hb
   replace HB := bs hb
   (try clear hb)
   refine hK.out _ _ ⟨ec BK456, ec BK456, ec BK462, ec BK462, ec BK468, ec BK468, ec BK474, ec BK474, ec BK379, ec BK379, ec BK379, ec BK379⟩ (fun hHeld => ?_)
   clear hK K
   refine nm (some 387) ?_
   refine pu 18 (some 388) (tb 49 524287) ?_
   refine pu 19 (some 389) (tb 49 1048575) ?_
   refine pu 20 (some 390) (tb 49 2097151) ?_
   refine pu 21 (some 391) (tb 49 4194303) ?_
   refine pu 22 (some 392) (tb 49 8388607) ?_
   refine pu 23 (some 393) (tb 49 16777215) ?_
   refine pu 24 (some 394) (tb 49 33554431) ?_
   refine pu 25 (some 395) (tb 49 67108863) ?_
   refine pu 26 (some 396) (tb 49 134217727) ?_
   refine pu 27 (some 397) (tb 49 268435455) ?_
   refine pu 28 (some 398) (tb 49 536870911) ?_
   refine pu 29 (some 399) (tb 49 1073741823) ?_
   refine pu 30 (some 400) (tb 49 2147483647) ?_
   refine pu 31 (some 401) (tb 49 4294967295) ?_
   refine pu 34 (some 404) (tb 49 21474836479) ?_
   refine tk 32 (some 402) (tb 49 25769803775) (hT := HT_) (hB := HW_) hHeld ?_
   refine tk 35 (some 405) (tb 49 60129542143) (hT := HT_) (hB := HW_) hHeld ?_
   refine one_ (i := 33) (N := some 403) (tb 49 68719476735) rfl rfl (one_of HT_.out (by kernel_rfl)) (by decide) (fun K hK => ?_)
   refine go1 Tryz.func24 #[.int .i64 a10, .agg #[.int .i64 a11_0, .int .i64 a11_1, .int .i64 a11_2, .int .i64 a11_3]] ?_
   with_reducible refine (impl_IsClue.calls a10 a11_0 a11_1 a11_2 a11_3 t481 _ A335.out).mono ?_
   rintro e w349 ⟨rfl, hb⟩
   refine ⟨_, rfl, ?_⟩
   replace HO454 := rl HO454 hb
   replace HO460 := rl HO460 hb
   replace HO466 := rl HO466 hb
   replace HO472 := rl HO472 hb
   replace BK375 := nk BK375 hb
   replace BK376 := nk BK376 hb
   replace BK377 := nk BK377 hb
   replace BK378 := nk BK378 hb
   replace BK379 := nk BK379 hb
   replace BK456 := nk BK456 hb
   replace BK462 := nk BK462 hb
   replace BK468 := nk BK468 hb
   replace BK474 := nk BK474 hb
   replace HB := bs hb
   (try clear hb)
   refine hK.out _ _ ⟨ec BK456, ec BK456, ec BK462, ec BK462, ec BK468, ec BK468, ec BK474, ec BK474, ec BK379, ec BK379, ec BK379, ec BK379⟩ (fun hHeld => ?_)
   clear hK K
   refine nm (some 403) ?_
   refine one_ (i := 36) (N := some 406) (tb 49 137438953471) rfl rfl (one_of HT_.out (by kernel_rfl)) (by decide) (fun K hK => ?_)
   refine go1 Tryz.func25 #[.int .i64 a10, .agg #[.int .i64 a11_0, .int .i64 a11_1, .int .i64 a11_2, .int .i64 a11_3]] ?_
   with_reducible refine (spec_IsClue.calls a10 a11_0 a11_1 a11_2 a11_3 t482 _ A336.out).mono ?_
   rintro e w350 ⟨rfl, hb⟩
   refine ⟨_, rfl, ?_⟩
   replace HO454 := rl HO454 hb
   replace HO460 := rl HO460 hb
   replace HO466 := rl HO466 hb
   replace HO472 := rl HO472 hb
   replace BK375 := nk BK375 hb
   replace BK376 := nk BK376 hb
   replace BK377 := nk BK377 hb
   replace BK378 := nk BK378 hb
   replace BK379 := nk BK379 hb
   replace BK456 := nk BK456 hb
   replace BK462 := nk BK462 hb
   replace BK468 := nk BK468 hb
   replace BK474 := nk BK474 hb
   replace HB := bs hb
   (try clear hb)
   refine hK.out _ _ ⟨ec BK456, ec BK456, ec BK462, ec BK462, ec BK468, ec BK468, ec BK474, ec BK474, ec BK379, ec BK379, ec BK379, ec BK379⟩ (fun hHeld => ?_)
   clear hK K
   refine nm (some 406) ?_
   refine pu 37 (some 407) (tb 49 274877906943) ?_
   refine pu 38 (some 408) (tb 49 549755813887) ?_
   refine pu 39 (some 409) (tb 49 1099511627775) ?_
   refine pu 40 (some 410) (tb 49 2199023255551) ?_
   refine pu 41 (some 411) (tb 49 4398046511103) ?_
   refine pure_ (i := 42) (N := some 412) (v := undef) (a' := ?_) (tb 49 8796093022207) rfl rfl (any_of HT_.out (by kernel_rfl)) (fun _ _ _ h => h) (Or.inr ⟨by rfl, rfl⟩) ?_ ?_
   rotate_left
   ·simp only [Act.put, List.setIfInBounds_toArray, List.set_cons_zero, List.set_cons_succ, i64_w, i32_w]
    rfl
   refine pure_ (i := 43) (N := some 413) (v := undef) (a' := ?_) (tb 49 17592186044415) rfl rfl (any_of HT_.out (by kernel_rfl)) (fun _ _ _ h => h) (Or.inr ⟨by rfl, rfl⟩) ?_ ?_
   rotate_left
   ·simp only [Act.put, List.setIfInBounds_toArray, List.set_cons_zero, List.set_cons_succ, i64_w, i32_w]
    rfl
   refine pure_ (i := 44) (N := some 414) (v := undef) (a' := ?_) (tb 49 35184372088831) rfl rfl (any_of HT_.out (by kernel_rfl)) (fun _ _ _ h => h) (Or.inr ⟨by rfl, rfl⟩) ?_ ?_
   rotate_left
   ·simp only [Act.put, List.setIfInBounds_toArray, List.set_cons_zero, List.set_cons_succ, i64_w, i32_w]
    rfl
   refine pure_ (i := 45) (N := some 415) (v := undef) (a' := ?_) (tb 49 70368744177663) rfl rfl (any_of HT_.out (by kernel_rfl)) (fun _ _ _ h => h) (Or.inr ⟨by rfl, rfl⟩) ?_ ?_
   rotate_left
   ·simp only [Act.put, List.setIfInBounds_toArray, List.set_cons_zero, List.set_cons_succ, i64_w, i32_w]
    rfl
   refine pure_ (i := 46) (N := some 416) (v := undef) (a' := ?_) (tb 49 140737488355327) rfl rfl (any_of HT_.out (by kernel_rfl)) (fun _ _ _ h => h) (Or.inr ⟨by rfl, rfl⟩) ?_ ?_
   rotate_left
   ·simp only [Act.put, List.setIfInBounds_toArray, List.set_cons_zero, List.set_cons_succ, i64_w, i32_w]
    rfl
   refine pu 47 (some 417) (tb 49 281474976710655) ?_
   refine pu 48 (some 418) (tb 49 562949953421311) ?_
   refine done_ (done_of HT_.out (by kernel_rfl)) ?_
   try go_wp2
   go_meet
   case rel => exact ⟨_, (false), (rs), H', ⟨by have := HJ12.out; have := HJ26.out; have := HJ155.out; have := HJ223.out; first | omega | exact Nat.le_refl _⟩, ⟨by (with_reducible repeat (first | apply Kd.R_alloc | apply Kd.R_drewN | apply Kd.R_drew)); exact Kd.R_mono HO454.out (fun _ hk => ⟨hk.1.2, hk.1.1.1.1.1.2⟩)⟩, ⟨by (with_reducible repeat (first | apply Kd.R_alloc | apply Kd.R_drewN | apply Kd.R_drew)); exact Kd.R_mono HO466.out (fun _ hk => ⟨hk.1.1.1.1.1.2, hk.1.1.1.2⟩)⟩, ⟨pk BK375⟩, ⟨pk BK376⟩, ⟨pk BK377⟩, ⟨pk BK456⟩, ⟨pk BK468⟩, ⟨bw⟩⟩
  case rest =>
   clear HC264
   repeat (first|clear c25)
   obtain ⟨kq, x418_263, rfl, HA, HJ263, HO_457001, HO_469001, BK375, BK376, BK377, BK456, BK468, HB⟩ := hcut
   go_step
   exact laws_FnRowsHiddenOfAll.r5 k a0 a1 a2 a3_0 A3_1 c3_1 l3_1 a4_0 A4_1 c4_1 l4_1 a5_0 a5_1 a5_2 a5_3 a6_0 A6_1 c6_1 l6_1 a7 a8_0 a8_1 a8_2 a8_3 a9 a10 a11_0 a11_1 a11_2 a11_3 r w HR4_1 HC4_1 HR6_1 HC6_1 HRT gb374 gb375 gb376 NB375_376 gb377 NB375_377 gb378 gb379 u81 u82 u85 u86 kj12 HJ12 t380 t381 t384 t386 t387 t390 gb385 Ao37 co37 gb391 Ao48 co48 u29 u30 u31 u32 u33 u34 u35 u36 u37 u38 u39 u40 u41 u42 u43 u44 u45 u46 u47 u48 u50 u51 u52 u83 u84 u87 u88 u95 u99 u100 u101 u102 u103 u104 u105 u106 u107 u108 u109 u110 u111 u112 u113 u114 u115 u116 u117 u118 u119 u120 u121 u122 u123 u124 u125 u126 u127 u128 u129 u130 u131 u132 u133 u134 u135 u136 u137 u138 u139 u140 u141 u142 u143 u144 u145 u146 u147 u148 u149 u150 u151 u152 u153 u154 u155 u156 u157 u158 u159 u160 u161 u162 u163 u164 u165 u166 u167 u168 u169 u170 u171 u172 u173 u174 u175 u176 u177 u178 u179 u180 u181 u182 u183 u184 u185 u186 u187 u188 u189 u190 u191 u192 u193 u194 u195 u196 u197 u198 u199 u200 u201 u202 u203 u204 u205 u206 u207 u208 u209 u210 u212 u213 u214 u215 u216 u217 u219 u220 u221 u222 u223 u236 u237 u238 u239 u240 u241 u242 u243 u244 u245 u246 u255 kj26 HJ26 t423 t424 t427 t433 t435 t436 gb428 Ao172 co172 gb434 u211 u218 u224 u225 u226 u227 u228 u257 u258 u259 u261 u262 u263 u264 u266 u267 u268 kj155 HJ155 u24 u59 u60 u61 u62 u63 u64 u229 u230 u231 u232 u233 u234 u235 u247 u248 u249 u250 u251 u252 u253 u254 u260 u265 u269 u270 u271 u272 u273 u274 u275 u276 u277 u278 u279 u280 u281 u282 u283 u284 u285 u286 u287 u288 u289 u290 u291 u292 u293 u294 u295 u296 u297 u298 u299 u300 u301 u302 u303 u304 u305 u306 u307 u308 u309 u311 u312 u321 u322 u326 u327 u328 u329 u330 u331 kj223 HJ223 t451 t452 t455 A258 t457 t458 t461 t463 t464 t467 A260 t469 t470 t473 t475 t476 t477 t478 gb456 NB456_375 NB456_376 NB456_377 Ao282 co282 gb462 w286 Ao294 co294 hz297 gb468 w299 NB375_468 NB377_468 NB456_468 Ao308 co308 hz309 gb474 Ao321 co321 w326 HO454 HO460 HO466 HO472 _ (by assumption) wc u310 u313 u314 u315 u316 u317 u318 u319 u320 u323 u324 u325 u332 u333 u339 u345 u351 u356 u357 u358 u359 u360 u361 u362 u363 u364 u365 u366 u367 u368 u369 u370 u371 u372 u373 u374 u375 u376 u377 u378 u379 u380 u381 u382 u383 u384 u385 u386 u387 u388 u389 u390 u391 u392 u393 u394 u395 u396 u397 u398 u399 u400 u401 u402 u403 u404 u405 u406 u407 u408 u409 u410 u411 u412 u413 u414 u415 u416 u417 kq x418_263 HA HJ263 HO_457001 HO_469001 BK375 BK376 BK377 BK456 BK468 HB

set_option maxHeartbeats 80000000 in
set_option maxRecDepth 100000 in
theorem laws_FnRowsHiddenOfAll.r3
 (k : Nat)
 (a0 : ByteArray)
 (a1 a2 a3_0 : Int)
 (A3_1 : Option Addr)
 (c3_1 : Nat)
 (l3_1 : List S26)
 (a4_0 : Int)
 (A4_1 : Option Addr)
 (c4_1 : Nat)
 (l4_1 : List S26)
 (a5_0 a5_1 a5_2 a5_3 a6_0 : Int)
 (A6_1 : Option Addr)
 (c6_1 : Nat)
 (l6_1 : List S26)
 (a7 a8_0 a8_1 a8_2 a8_3 : Int)
 (a9 : ByteArray)
 (a10 a11_0 a11_1 a11_2 a11_3 : Int)
 (r : Bool)
 (w : World)
 (HR3_1 : Aside0 (Kd.C k26 w A3_1 (List.length l3_1) l3_1))
 (HC3_1 : Aside0 (List.length l3_1 ≤ c3_1))
 (HR4_1 : Aside0 (Kd.C k26 w A4_1 (List.length l4_1) l4_1))
 (HC4_1 : Aside0 (List.length l4_1 ≤ c4_1))
 (HR6_1 : Aside0 (Kd.C k26 w A6_1 (List.length l6_1) l6_1))
 (HC6_1 : Aside0 (List.length l6_1 ≤ c6_1))
 (HRT : Aside0 (r = true))
 (HMM : Aside0 (Dr.Tab w))
 (gb374 gb375 : Nat)
 (NB374_375 : Aside0 (gb374 ≠ gb375))
 (gb376 : Nat)
 (NB374_376 : Aside0 (gb374 ≠ gb376))
 (NB375_376 : Aside0 (gb375 ≠ gb376))
 (gb377 : Nat)
 (NB374_377 : Aside0 (gb374 ≠ gb377))
 (NB375_377 : Aside0 (gb375 ≠ gb377))
 (NB376_377 : Aside0 (gb376 ≠ gb377))
 (gb378 : Nat)
 (NB374_378 : Aside0 (gb374 ≠ gb378))
 (NB375_378 : Aside0 (gb375 ≠ gb378))
 (NB376_378 : Aside0 (gb376 ≠ gb378))
 (NB377_378 : Aside0 (gb377 ≠ gb378))
 (gb379 : Nat)
 (NB374_379 : Aside0 (gb374 ≠ gb379))
 (NB375_379 : Aside0 (gb375 ≠ gb379))
 (NB376_379 : Aside0 (gb376 ≠ gb379))
 (NB377_379 : Aside0 (gb377 ≠ gb379))
 (NB378_379 : Aside0 (gb378 ≠ gb379))
 (u81 u82 u85 u86 : Value)
 (kj12 : Nat)
 (HJ12 : Aside0 (kj12 + 1 ≤ k))
 (t380 : Int)
 (t381 : List S26)
 (t384 : Bool)
 (t386 : Int)
 (t387 : List S26)
 (t390 : Bool)
 (gb385 : Nat)
 (Ao37 : Option Addr)
 (co37 gb391 : Nat)
 (Ao48 : Option Addr)
 (co48 : Nat)
 (u24 u29 u30 u31 u32 u33 u34 u35 u36 u37 u38 u39 u40 u41 u42 u43 u44 u45 u46 u47 u48 u50 u51 u52 u83 u84 u87 u88 u95 u99 u100 u101 u102 u103 u104 u105 u106 u107 u108 u109 u110 u111 u112 u113 u114 u115 u116 u117 u118 u119 u120 u121 u122 u123 u124 u125 u126 u127 u128 u129 u130 u131 u132 u133 u134 u135 u136 u137 u138 u139 u140 u141 u142 u143 u144 u145 u146 u147 u148 u149 u150 u151 u152 u153 u154 u155 u156 u157 u158 u159 u160 u161 u162 u163 u164 u165 u166 u167 u168 u169 u170 u171 u172 u173 u174 u175 u176 u177 u178 u179 u180 u181 u182 u183 u184 u185 u186 u187 u188 u189 u190 u191 u192 u193 u194 u195 u196 u197 u198 u199 u200 u201 u202 u203 u204 u205 u206 u207 u208 u209 u210 u212 u213 u214 u215 u216 u217 u219 u220 u221 u222 u223 u236 u237 u238 u239 u240 u241 u242 u243 u244 u245 u246 u255 : Value)
 (kj26 : Nat)
 (HJ26 : Aside0 (kj26 + 1 ≤ kj12))
 (t423 : Int)
 (t424 : List S26)
 (t427 : Bool)
 (A153 : Aside0 (impl_HarderPuzzle.f kj26 a3_0 l3_1 = some (t423, t424, t427)))
 (t433 t435 t436 : Bool)
 (gb428 : Nat)
 (NB374_428 : Aside0 (gb374 ≠ gb428))
 (NB428_375 : Aside0 (gb428 ≠ gb375))
 (NB428_376 : Aside0 (gb428 ≠ gb376))
 (NB428_377 : Aside0 (gb428 ≠ gb377))
 (NB428_378 : Aside0 (gb428 ≠ gb378))
 (NB428_379 : Aside0 (gb428 ≠ gb379))
 (Ao172 : Option Addr)
 (co172 gb434 : Nat)
 (x1_ : Act → World → Prop)
 (x2_ : ∀ (a : Act) (w_1 : World), Code.wp Tryz.prog (cdd Tryz.f3 [1, 1, 1, 1, 1, 1, 1, 1, 1, 1]) (bodyPost Tryz.prog Tryz.f3 fun e w' => e = Ending.returned (Value.bool r) ∧ Below (Array.size w.heap) w w') a w_1 → x1_ a w_1)
 (wc : World)
 (u211 u218 u224 u225 u226 u227 u228 u229 u230 u231 u232 u233 u234 u235 u247 u248 u249 u250 u251 u252 u253 u254 u257 u258 u259 u260 u261 u262 u263 u264 u265 u266 u267 u268 u269 u270 u271 u272 u273 u274 u275 u276 u277 u278 u279 u280 u281 u282 u283 u284 u285 u286 : Value)
 (kq : Nat)
 (x287_155 : Bool)
 (HA : Aside0 (j5 kq a7 a9 a10 t427 x287_155 a3_0 l3_1 a4_0 l4_1 a5_0 a5_1 a5_2 a5_3 a6_0 l6_1 a8_0 a8_1 a8_2 a8_3 a11_0 a11_1 a11_2 a11_3 t423 t424 = some r))
 (HJ155 : Aside0 (kq ≤ kj26))
 (HO_429001 : Aside0 (Kd.R k26 26 wc (Array.size w.heap) (fun k_ => k_ ≠ gb376 ∧ k_ ≠ gb378 ∧ k_ ≠ gb379) (Value.slice Ao172 (List.length t424) co172) t424))
 (BK374 : Aside0 (wc.heap[gb374]? = some (Obj.cells #[Value.int IntKind.i64 a3_0, Value.slice A3_1 (List.length l3_1) c3_1] 24)))
 (BK375 : Aside0 (wc.heap[gb375]? = some (Obj.cells #[Value.int IntKind.i64 a4_0, Value.slice A4_1 (List.length l4_1) c4_1] 24)))
 (BK376 : Aside0 (wc.heap[gb376]? = some (Obj.cells #[Value.int IntKind.i64 a5_0, Value.int IntKind.i64 a5_1, Value.int IntKind.i64 a5_2, Value.int IntKind.i64 a5_3] 26)))
 (BK377 : Aside0 (wc.heap[gb377]? = some (Obj.cells #[Value.int IntKind.i64 a6_0, Value.slice A6_1 (List.length l6_1) c6_1] 24)))
 (BK378 : Aside0 (wc.heap[gb378]? = some (Obj.cells #[Value.int IntKind.i64 a8_0, Value.int IntKind.i64 a8_1, Value.int IntKind.i64 a8_2, Value.int IntKind.i64 a8_3] 26)))
 (BK379 : Aside0 (wc.heap[gb379]? = some (Obj.cells #[Value.int IntKind.i64 a11_0, Value.int IntKind.i64 a11_1, Value.int IntKind.i64 a11_2, Value.int IntKind.i64 a11_3] 26)))
 (BK428 : Aside0 (wc.heap[gb428]? = some (Obj.cells #[Value.int IntKind.i64 t423, Value.slice Ao172 (List.length t424) co172] 24)))
 (HB : Aside0 (Below (Array.size w.heap) w wc)) :
 Code.wp Tryz.prog (cdd Tryz.f3 [1, 1, 1, 1, 1, 1, 1, 1, 1, 0, 1]) (Exit.then x1_ (bodyPost Tryz.prog Tryz.f3 fun e w' => e = Ending.returned (Value.bool r) ∧ Below (Array.size w.heap) w w')) { tmps := #[Value.string a0, Value.int IntKind.i64 a1, Value.int IntKind.i64 a2, Value.agg #[Value.int IntKind.i64 a3_0, Value.slice A3_1 (List.length l3_1) c3_1], Value.agg #[Value.int IntKind.i64 a4_0, Value.slice A4_1 (List.length l4_1) c4_1], Value.agg #[Value.int IntKind.i64 a5_0, Value.int IntKind.i64 a5_1, Value.int IntKind.i64 a5_2, Value.int IntKind.i64 a5_3], Value.agg #[Value.int IntKind.i64 a6_0, Value.slice A6_1 (List.length l6_1) c6_1], Value.int IntKind.i64 a7, Value.agg #[Value.int IntKind.i64 a8_0, Value.int IntKind.i64 a8_1, Value.int IntKind.i64 a8_2, Value.int IntKind.i64 a8_3], Value.string a9, Value.int IntKind.i64 a10, Value.agg #[Value.int IntKind.i64 a11_0, Value.int IntKind.i64 a11_1, Value.int IntKind.i64 a11_2, Value.int IntKind.i64 a11_3], undef, undef, undef, Value.pointer (some { block := gb374, off := 0 }), Value.pointer (some { block := gb375, off := 0 }), Value.pointer (some { block := gb376, off := 0 }), Value.pointer (some { block := gb377, off := 0 }), undef, Value.pointer (some { block := gb378, off := 0 }), undef, undef, Value.pointer (some { block := gb379, off := 0 }), u24, Value.pointer (some { block := gb385, off := 0 }), Value.bool t384, Value.pointer (some { block := gb391, off := 0 }), Value.bool t390, u29, u30, u31, u32, u33, u34, u35, u36, u37, u38, u39, u40, u41, u42, u43, u44, u45, u46, u47, u48, undef, u50, u51, u52, Value.pointer (some { block := gb428, off := 0 }), Value.bool t427, Value.pointer (some { block := gb434, off := 0 }), Value.bool t433, Value.bool t435, Value.bool t436, undef, undef, undef, undef, undef, undef, undef, undef, undef, undef, undef, undef, undef, undef, undef, undef, undef, undef, undef, undef, undef, undef, u81, u82, u83, u84, u85, u86, u87, u88, Value.tuple #[Value.agg #[Value.int IntKind.i64 t380, Value.slice Ao37 (List.length t381) co37], Value.bool t384], Value.string a0, Value.int IntKind.i64 a1, Value.int IntKind.i64 a2, Value.tuple #[Value.agg #[Value.int IntKind.i64 t380, Value.slice Ao37 (List.length t381) co37], Value.bool t384], Value.agg #[Value.int IntKind.i64 t380, Value.slice Ao37 (List.length t381) co37], u95, Value.tuple #[Value.agg #[Value.int IntKind.i64 t386, Value.slice Ao48 (List.length t387) co48], Value.bool t390], Value.string a0, Value.int IntKind.i64 a1, u99, u100, u101, u102, u103, u104, u105, u106, u107, u108, u109, u110, u111, u112, u113, u114, u115, u116, u117, u118, u119, u120, u121, u122, u123, u124, u125, u126, u127, u128, u129, u130, u131, u132, u133, u134, u135, u136, u137, u138, u139, u140, u141, u142, u143, u144, u145, u146, u147, u148, u149, u150, u151, u152, u153, u154, u155, u156, u157, u158, u159, u160, u161, u162, u163, u164, u165, u166, u167, u168, u169, u170, u171, u172, u173, u174, u175, u176, u177, u178, u179, u180, u181, u182, u183, u184, u185, u186, u187, u188, u189, u190, u191, u192, u193, u194, u195, u196, u197, u198, u199, u200, u201, u202, u203, u204, u205, u206, u207, u208, u209, u210, u211, u212, u213, u214, u215, u216, u217, u218, u219, u220, u221, u222, u223, u224, u225, u226, u227, u228, u229, u230, u231, u232, u233, u234, u235, u236, u237, u238, u239, u240, u241, u242, u243, u244, u245, u246, u247, u248, u249, u250, u251, u252, u253, u254, u255, Value.tuple #[Value.agg #[Value.int IntKind.i64 t423, Value.slice Ao172 (List.length t424) co172], Value.bool t427], u257, u258, u259, u260, u261, u262, u263, u264, u265, u266, u267, u268, u269, u270, u271, u272, u273, u274, u275, u276, u277, u278, u279, u280, u281, u282, u283, u284, u285, u286, Value.bool x287_155, undef, undef, undef, undef, undef, undef, undef, undef, undef, undef, undef, undef, undef, undef, undef, undef, undef, undef, undef, undef, undef, undef, undef, undef, undef, undef, undef, undef, undef, undef, undef, undef, undef, undef, undef, undef, undef, undef, undef, undef, undef, undef, undef, undef, undef, undef, undef, undef, undef, undef, undef, undef, undef, undef, undef, undef, undef, undef, undef, undef, undef, undef, undef, undef, undef, undef, undef, undef, undef, undef, undef, undef, undef, undef, undef, undef, undef, undef, undef, undef, undef, undef, undef, undef, undef, undef, undef, undef, undef, undef, undef, undef, undef, undef, undef, undef, undef, undef, undef, undef, undef, undef, undef, undef, undef, undef, undef, undef, undef, undef, undef, undef, undef, undef, undef, undef, undef, undef, undef, undef, undef, undef, undef, undef, undef, undef, undef, undef, undef, undef, undef, undef, undef, undef, undef, undef, undef, undef, undef, undef, undef, undef, undef, undef, undef, undef, undef, undef, undef, undef, undef, undef, undef, undef, undef, undef, undef, undef, undef, undef, undef, undef, undef, undef, undef, undef, undef, undef, undef, undef, undef, undef, undef, undef, undef, undef, undef, undef, undef, undef, undef, undef, undef, undef], defers := [] } wc := by
 conv at x2_ in cdd _ _ => whnf
 conv in cdd _ _ => whnf
 try dsimp only
 cases kq with
 | zero => exact absurd HA.out (by simp [laws_FnRowsHiddenOfAll.j5])
 | succ kj155 =>
  have H := HA.out
  clear HA
  simp only [laws_FnRowsHiddenOfAll.j5] at H
  by_cases c223 : x287_155 = true
  ·subst c223
   rw [if_pos rfl] at H
   exact absurd (Option.some.inj H) (by rw [HRT.out]; decide)
  replace c223 := Bool.eq_false_iff.mpr c223
  subst c223
  rw [if_neg (show ¬ (false = true) by decide)] at H
  have HC224 := Aside0.mk H
  clear H
  go_upto_if 288 with (fail)
  go_cut [229, 230, 231, 232, 233, 234, 235, 247, 248, 249, 250, 251, 252, 253, 254, 260, 265, 269, 270, 271, 272, 273, 274, 275, 276, 277, 278, 279, 280, 281, 282, 283, 284, 285, 286, 287, 288] from 9999 (fun _ _ _ _ _ _ _ _ _ _ _ _ _ _ _ _ _ _ _ _ _ _ _ _ _ _ _ _ _ _ _ _ _ _ _ _ _ wc => ∃ (kq : Nat), Aside0 (laws_FnRowsHiddenOfAll.j6 kq a7 a9 a10 a4_0 l4_1 a5_0 a5_1 a5_2 a5_3 a6_0 l6_1 a8_0 a8_1 a8_2 a8_3 a11_0 a11_1 a11_2 a11_3 = some r) ∧ Aside0 (kq ≤ kj155) ∧ Aside0 (wc.heap[gb375]? = some (.cells #[.int .i64 a4_0, (.slice A4_1 l4_1.length c4_1)] 24 (0, 0))) ∧ Aside0 (wc.heap[gb376]? = some (.cells #[.int .i64 a5_0, .int .i64 a5_1, .int .i64 a5_2, .int .i64 a5_3] 26 (0, 0))) ∧ Aside0 (wc.heap[gb377]? = some (.cells #[.int .i64 a6_0, (.slice A6_1 l6_1.length c6_1)] 24 (0, 0))) ∧ Aside0 (wc.heap[gb378]? = some (.cells #[.int .i64 a8_0, .int .i64 a8_1, .int .i64 a8_2, .int .i64 a8_3] 26 (0, 0))) ∧ Aside0 (wc.heap[gb379]? = some (.cells #[.int .i64 a11_0, .int .i64 a11_1, .int .i64 a11_2, .int .i64 a11_3] 26 (0, 0))) ∧ Aside0 (Below w.heap.size w wc))
  case first =>
   rename_i J4_ K4_ hJ4_ hM4_
   have H := HC224.out
   clear HC224
   by_cases c225 : t427 = true
   ·subst c225
    rw [if_pos rfl] at H
    replace H := ob H
    obtain ⟨⟨t438, t441⟩, A226, H⟩ := H
    (try dsimp only at H)
    replace H := ob H
    obtain ⟨⟨t442, t445⟩, A227, H⟩ := H
    (try dsimp only at H)
    replace H := ob H
    obtain ⟨⟨t446, t449⟩, A228, H⟩ := H
    (try dsimp only at H)
    replace H := ofr HRT H
    obtain ⟨c229, H⟩ := H
    subst c229
    replace H := ofr HRT H
    obtain ⟨c230, H⟩ := H
    subst c230
    replace H := ob H
    obtain ⟨t450, A231, H⟩ := H
    (try dsimp only at H)
    replace H := ofr HRT H
    obtain ⟨c232, H⟩ := H
    subst c232
    replace H := ofr HRT H
    obtain ⟨c233, H⟩ := H
    subst c233
    replace H := ofr HRT H
    obtain ⟨c234, H⟩ := H
    have c234b0 : ((t446.length : Int) == 0) = true := beq_iff_eq.mpr c234
    have c234b1 : ((t446.length : Int) != 0) = false := bne_eq_false_iff_eq.mpr c234
    clear c234
    (first | rw [c234b0] | rw [@decide_eq_true _ _ (of_decide_eq_true c234b1)] | rw [@decide_eq_false _ _ (of_decide_eq_false c234b1)] | (simp only [i64_w, i32_w]; rw [c234b0]) | skip)
    replace H := ofl HRT H
    obtain ⟨c235, H⟩ := H
    have c235b0 := decide_eq_false c235
    have c235b1 : decide (l3_1.length < t424.length) = false := decide_eq_false (fun h => c235 (Int.ofNat_lt.mpr h))
    clear c235
    have H' := Aside0.mk H
    clear H
    have hnb236 := nb NB374_375
    have hnb237 := nb NB374_376
    have hnb238 := nb NB374_377
    have hnb239 := nb NB374_378
    have hnb240 := nb NB374_379
    have hnb241 := nb NB374_428
    have hcz242_0 : wc.cell? ⟨gb374, 0, none⟩ = some (.int .i64 a3_0) := ec BK374
    have hcz242_1 : wc.cell? ⟨gb374, 1, none⟩ = some (.slice A3_1 l3_1.length c3_1) := ec BK374
    have hfz242_0 := blk_frozen BK374.out 0
    have hfz242_1 := blk_frozen BK374.out 1
    go_wp2_with (first | ((with_reducible refine gc 16 ?_); refine gl (some 291) Tryz.func16 #[.agg #[.int .i64 a3_0, .slice A3_1 l3_1.length c3_1]] ?_; (with_reducible refine (impl_Solutions.calls kj155 a3_0 _ _ l3_1 t438 true _ ?_ ?_ ?_ A226.out).mono ?_); exact Dr.mm HMM; exact cb HR3_1; exact HC3_1.out; rintro e w243 ⟨v439, rfl, ho0, hb⟩; refine ⟨_, rfl, ?_⟩; replace HO_429001 := rl HO_429001 hb; have HO440 := Aside0.mk (Kd.R_lower ho0 (below_size bw)); replace BK374 := nk BK374 hb; replace BK375 := nk BK375 hb; replace BK376 := nk BK376 hb; replace BK377 := nk BK377 hb; replace BK378 := nk BK378 hb; replace BK379 := nk BK379 hb; replace BK428 := nk BK428 hb; replace HB := bs hb; (try clear hb); (try clear ho0); have hnb244 := nb NB428_375; have hnb245 := nb NB428_376; have hnb246 := nb NB428_377; have hnb247 := nb NB428_378; have hnb248 := nb NB428_379; obtain ⟨hcz249_0, hcz249_1, hfz249_0, hfz249_1⟩ := z2 BK428) | ((with_reducible refine gc 16 ?_); refine gl (some 296) Tryz.func16 #[.agg #[.int .i64 t423, .slice Ao172 t424.length co172]] ?_; (with_reducible refine (impl_Solutions.calls kj155 t423 _ _ t424 t442 true _ ?_ ?_ ?_ A227.out).mono ?_); exact Dr.mm HMM; exact rr HO_429001; exact rn HO_429001; rintro e w250 ⟨v443, rfl, ho0, hb⟩; refine ⟨_, rfl, ?_⟩; replace HO_429001 := rl HO_429001 hb; have HO444 := Aside0.mk (Kd.R_lower (Kd.R_new' ho0 (Kd.R_lt (pr HO440))) (below_size bw)); replace HO440 := re HO440 ho0 hb; replace BK374 := nk BK374 hb; replace BK375 := nk BK375 hb; replace BK376 := nk BK376 hb; replace BK377 := nk BK377 hb; replace BK378 := nk BK378 hb; replace BK379 := nk BK379 hb; replace BK428 := nk BK428 hb; replace HB := bs hb; (try clear hb); (try clear ho0); obtain ⟨hcz251_0, hcz251_1, hfz251_0, hfz251_1⟩ := z2 BK428) | ((with_reducible refine gc 17 ?_); refine gl (some 301) Tryz.func17 #[.agg #[.int .i64 t423, .slice Ao172 t424.length co172]] ?_; (with_reducible refine (impl_NeedlessClues.calls kj155 t423 _ _ t424 t446 true _ ?_ ?_ ?_ A228.out).mono ?_); exact Dr.mm HMM; exact rr HO_429001; exact rn HO_429001; rintro e w252 ⟨v447, rfl, ho0, hb⟩; refine ⟨_, rfl, ?_⟩; replace HO_429001 := rl HO_429001 hb; replace HO440 := rl HO440 hb; replace HO444 := rl HO444 hb; have HO448 := Aside0.mk (Kd.R_lower ho0 (below_size bw)); replace BK374 := nk BK374 hb; replace BK375 := nk BK375 hb; replace BK376 := nk BK376 hb; replace BK377 := nk BK377 hb; replace BK378 := nk BK378 hb; replace BK379 := nk BK379 hb; replace BK428 := nk BK428 hb; replace HB := bs hb; (try clear hb); (try clear ho0); obtain ⟨Ao253, co253, eo253⟩ := Kd.R_slice HO440.out; subst eo253; obtain ⟨Ao254, co254, eo254⟩ := Kd.R_slice HO444.out; subst eo254) | (go_at_call 18; (with_reducible refine (laws_vTexts.calls kj155 _ _ t438 _ _ t442 true _ ?_ ?_ ?_ ?_ A231.out).mono ?_); exact rr HO440; exact rn HO440; exact rr HO444; exact rn HO444; rintro e w' ⟨rfl, ⟨nd, rfl⟩⟩; obtain ⟨Ao255, co255, eo255⟩ := Kd.R_slice HO448.out; subst eo255; obtain ⟨hcz256_0, hcz256_1, hfz256_0, hfz256_1⟩ := z2 BK428; obtain ⟨hcz257_0, hcz257_1, hfz257_0, hfz257_1⟩ := z2 BK374))
    go_meet
    case rel => exact ⟨_, H', ⟨by have := HJ12.out; have := HJ26.out; have := HJ155.out; first | omega | exact Nat.le_refl _⟩, ⟨pk BK375⟩, ⟨pk BK376⟩, ⟨pk BK377⟩, ⟨pk BK378⟩, ⟨pk BK379⟩, ⟨bw⟩⟩
   replace c225 := Bool.eq_false_iff.mpr c225
   subst c225
   rw [if_neg (show ¬ (false = true) by decide)] at H
   have H' := Aside0.mk H
   clear H
   go_wp2
   go_meet
   case rel => exact ⟨_, H', ⟨by have := HJ12.out; have := HJ26.out; have := HJ155.out; first | omega | exact Nat.le_refl _⟩, ⟨pk BK375⟩, ⟨pk BK376⟩, ⟨pk BK377⟩, ⟨pk BK378⟩, ⟨pk BK379⟩, ⟨bw⟩⟩
  case rest =>
   clear HC224
   repeat (first|clear c23|clear c234|clear c234b0|clear c234b1|clear c235|clear c235b0|clear c235b1|clear c236|clear c237|clear c238|clear c239|clear c240|clear c241|clear c244|clear c245|clear c246|clear c247|clear c248|clear hcz242_0|clear hcz242_1|clear hcz249_0|clear hcz249_1|clear hcz251_0|clear hcz251_1|clear hcz256_0|clear hcz256_1|clear hcz257_0|clear hcz257_1|clear hfz242_0|clear hfz242_1|clear hfz249_0|clear hfz249_1|clear hfz251_0|clear hfz251_1|clear hfz256_0|clear hfz256_1|clear hfz257_0|clear hfz257_1)
   obtain ⟨kq, HA, HJ223, BK375, BK376, BK377, BK378, BK379, HB⟩ := hcut
   go_step
   exact laws_FnRowsHiddenOfAll.r4 k a0 a1 a2 a3_0 A3_1 c3_1 l3_1 a4_0 A4_1 c4_1 l4_1 a5_0 a5_1 a5_2 a5_3 a6_0 A6_1 c6_1 l6_1 a7 a8_0 a8_1 a8_2 a8_3 a9 a10 a11_0 a11_1 a11_2 a11_3 r w HR4_1 HC4_1 HR6_1 HC6_1 HRT HMM gb374 gb375 gb376 NB375_376 gb377 NB375_377 NB376_377 gb378 NB375_378 NB376_378 NB377_378 gb379 NB375_379 NB376_379 NB377_379 NB378_379 u81 u82 u85 u86 kj12 HJ12 t380 t381 t384 t386 t387 t390 gb385 Ao37 co37 gb391 Ao48 co48 u29 u30 u31 u32 u33 u34 u35 u36 u37 u38 u39 u40 u41 u42 u43 u44 u45 u46 u47 u48 u50 u51 u52 u83 u84 u87 u88 u95 u99 u100 u101 u102 u103 u104 u105 u106 u107 u108 u109 u110 u111 u112 u113 u114 u115 u116 u117 u118 u119 u120 u121 u122 u123 u124 u125 u126 u127 u128 u129 u130 u131 u132 u133 u134 u135 u136 u137 u138 u139 u140 u141 u142 u143 u144 u145 u146 u147 u148 u149 u150 u151 u152 u153 u154 u155 u156 u157 u158 u159 u160 u161 u162 u163 u164 u165 u166 u167 u168 u169 u170 u171 u172 u173 u174 u175 u176 u177 u178 u179 u180 u181 u182 u183 u184 u185 u186 u187 u188 u189 u190 u191 u192 u193 u194 u195 u196 u197 u198 u199 u200 u201 u202 u203 u204 u205 u206 u207 u208 u209 u210 u212 u213 u214 u215 u216 u217 u219 u220 u221 u222 u223 u236 u237 u238 u239 u240 u241 u242 u243 u244 u245 u246 u255 kj26 HJ26 t423 t424 t427 t433 t435 t436 gb428 Ao172 co172 gb434 u211 u218 u224 u225 u226 u227 u228 u257 u258 u259 u261 u262 u263 u264 u266 u267 u268 kj155 HJ155 wc u24 u59 u60 u61 u62 u63 u64 u229 u230 u231 u232 u233 u234 u235 u247 u248 u249 u250 u251 u252 u253 u254 u260 u265 u269 u270 u271 u272 u273 u274 u275 u276 u277 u278 u279 u280 u281 u282 u283 u284 u285 u286 u287 u288 u289 u290 u291 u292 u293 u294 u295 u296 u297 u298 u299 u300 u301 u302 u303 u304 u305 u306 u307 u308 u309 u310 u311 u312 u313 u314 u315 u316 u317 u318 u319 u320 u321 u322 u323 u324 u325 u326 u327 u328 u329 u330 u331 u332 u333 kq HA HJ223 BK375 BK376 BK377 BK378 BK379 HB

set_option maxHeartbeats 80000000 in
set_option maxRecDepth 100000 in
theorem laws_FnRowsHiddenOfAll.r2
 (k : Nat)
 (a0 : ByteArray)
 (a1 a2 a3_0 : Int)
 (A3_1 : Option Addr)
 (c3_1 : Nat)
 (l3_1 : List S26)
 (a4_0 : Int)
 (A4_1 : Option Addr)
 (c4_1 : Nat)
 (l4_1 : List S26)
 (a5_0 a5_1 a5_2 a5_3 a6_0 : Int)
 (A6_1 : Option Addr)
 (c6_1 : Nat)
 (l6_1 : List S26)
 (a7 a8_0 a8_1 a8_2 a8_3 : Int)
 (a9 : ByteArray)
 (a10 a11_0 a11_1 a11_2 a11_3 : Int)
 (r : Bool)
 (w : World)
 (HR3_1 : Aside0 (Kd.C k26 w A3_1 (List.length l3_1) l3_1))
 (HC3_1 : Aside0 (List.length l3_1 ≤ c3_1))
 (HR4_1 : Aside0 (Kd.C k26 w A4_1 (List.length l4_1) l4_1))
 (HC4_1 : Aside0 (List.length l4_1 ≤ c4_1))
 (HR6_1 : Aside0 (Kd.C k26 w A6_1 (List.length l6_1) l6_1))
 (HC6_1 : Aside0 (List.length l6_1 ≤ c6_1))
 (HRT : Aside0 (r = true))
 (HMM : Aside0 (Dr.Tab w))
 (gb374 gb375 : Nat)
 (NB374_375 : Aside0 (gb374 ≠ gb375))
 (gb376 : Nat)
 (NB374_376 : Aside0 (gb374 ≠ gb376))
 (NB375_376 : Aside0 (gb375 ≠ gb376))
 (gb377 : Nat)
 (NB374_377 : Aside0 (gb374 ≠ gb377))
 (NB375_377 : Aside0 (gb375 ≠ gb377))
 (NB376_377 : Aside0 (gb376 ≠ gb377))
 (gb378 : Nat)
 (NB374_378 : Aside0 (gb374 ≠ gb378))
 (NB375_378 : Aside0 (gb375 ≠ gb378))
 (NB376_378 : Aside0 (gb376 ≠ gb378))
 (NB377_378 : Aside0 (gb377 ≠ gb378))
 (gb379 : Nat)
 (NB374_379 : Aside0 (gb374 ≠ gb379))
 (NB375_379 : Aside0 (gb375 ≠ gb379))
 (NB376_379 : Aside0 (gb376 ≠ gb379))
 (NB377_379 : Aside0 (gb377 ≠ gb379))
 (NB378_379 : Aside0 (gb378 ≠ gb379))
 (u81 u82 u85 u86 : Value)
 (kj12 : Nat)
 (HJ12 : Aside0 (kj12 + 1 ≤ k))
 (t380 : Int)
 (t381 : List S26)
 (t384 : Bool)
 (t386 : Int)
 (t387 : List S26)
 (t390 : Bool)
 (gb385 : Nat)
 (Ao37 : Option Addr)
 (co37 gb391 : Nat)
 (Ao48 : Option Addr)
 (co48 : Nat)
 (wc : World)
 (u24 u29 u30 u31 u32 u33 u34 u35 u36 u37 u38 u39 u40 u41 u42 u43 u44 u45 u46 u47 u48 u50 u51 u52 u83 u84 u87 u88 u95 u99 u100 u101 u102 u103 u104 u105 u106 u107 u108 u109 u110 u111 u112 u113 u114 u115 u116 u117 u118 u119 u120 u121 u122 u123 u124 u125 u126 u127 u128 u129 u130 u131 u132 u133 u134 u135 u136 u137 u138 u139 u140 u141 u142 u143 u144 u145 u146 u147 u148 u149 u150 u151 u152 u153 u154 u155 u156 u157 u158 u159 u160 u161 u162 u163 u164 u165 u166 u167 u168 u169 u170 u171 u172 u173 u174 u175 u176 u177 u178 u179 u180 u181 u182 u183 u184 u185 u186 u187 u188 u189 u190 u191 u192 u193 u194 u195 u196 u197 u198 u199 u200 u201 u202 u203 u204 u205 u206 u207 u208 u209 u210 u211 u212 u213 u214 u215 u216 u217 u218 u219 u220 u221 u222 u223 u224 u225 u226 u227 u228 u229 u230 u231 u232 u233 u234 u235 u236 u237 u238 u239 u240 u241 u242 u243 u244 u245 u246 u247 u248 u249 u250 u251 u252 u253 u254 u255 : Value)
 (kq : Nat)
 (HA : Aside0 (j4 kq a7 a9 a10 a3_0 l3_1 a4_0 l4_1 a5_0 a5_1 a5_2 a5_3 a6_0 l6_1 a8_0 a8_1 a8_2 a8_3 a11_0 a11_1 a11_2 a11_3 = some r))
 (HJ26 : Aside0 (kq ≤ kj12))
 (BK374 : Aside0 (wc.heap[gb374]? = some (Obj.cells #[Value.int IntKind.i64 a3_0, Value.slice A3_1 (List.length l3_1) c3_1] 24)))
 (BK375 : Aside0 (wc.heap[gb375]? = some (Obj.cells #[Value.int IntKind.i64 a4_0, Value.slice A4_1 (List.length l4_1) c4_1] 24)))
 (BK376 : Aside0 (wc.heap[gb376]? = some (Obj.cells #[Value.int IntKind.i64 a5_0, Value.int IntKind.i64 a5_1, Value.int IntKind.i64 a5_2, Value.int IntKind.i64 a5_3] 26)))
 (BK377 : Aside0 (wc.heap[gb377]? = some (Obj.cells #[Value.int IntKind.i64 a6_0, Value.slice A6_1 (List.length l6_1) c6_1] 24)))
 (BK378 : Aside0 (wc.heap[gb378]? = some (Obj.cells #[Value.int IntKind.i64 a8_0, Value.int IntKind.i64 a8_1, Value.int IntKind.i64 a8_2, Value.int IntKind.i64 a8_3] 26)))
 (BK379 : Aside0 (wc.heap[gb379]? = some (Obj.cells #[Value.int IntKind.i64 a11_0, Value.int IntKind.i64 a11_1, Value.int IntKind.i64 a11_2, Value.int IntKind.i64 a11_3] 26)))
 (HB : Aside0 (Below (Array.size w.heap) w wc)) :
 Code.wp Tryz.prog (cdd Tryz.f3 [1, 1, 1, 1, 1, 1]) (bodyPost Tryz.prog Tryz.f3 fun e w' => e = Ending.returned (Value.bool r) ∧ Below (Array.size w.heap) w w') { tmps := #[Value.string a0, Value.int IntKind.i64 a1, Value.int IntKind.i64 a2, Value.agg #[Value.int IntKind.i64 a3_0, Value.slice A3_1 (List.length l3_1) c3_1], Value.agg #[Value.int IntKind.i64 a4_0, Value.slice A4_1 (List.length l4_1) c4_1], Value.agg #[Value.int IntKind.i64 a5_0, Value.int IntKind.i64 a5_1, Value.int IntKind.i64 a5_2, Value.int IntKind.i64 a5_3], Value.agg #[Value.int IntKind.i64 a6_0, Value.slice A6_1 (List.length l6_1) c6_1], Value.int IntKind.i64 a7, Value.agg #[Value.int IntKind.i64 a8_0, Value.int IntKind.i64 a8_1, Value.int IntKind.i64 a8_2, Value.int IntKind.i64 a8_3], Value.string a9, Value.int IntKind.i64 a10, Value.agg #[Value.int IntKind.i64 a11_0, Value.int IntKind.i64 a11_1, Value.int IntKind.i64 a11_2, Value.int IntKind.i64 a11_3], undef, undef, undef, Value.pointer (some { block := gb374, off := 0 }), Value.pointer (some { block := gb375, off := 0 }), Value.pointer (some { block := gb376, off := 0 }), Value.pointer (some { block := gb377, off := 0 }), undef, Value.pointer (some { block := gb378, off := 0 }), undef, undef, Value.pointer (some { block := gb379, off := 0 }), u24, Value.pointer (some { block := gb385, off := 0 }), Value.bool t384, Value.pointer (some { block := gb391, off := 0 }), Value.bool t390, u29, u30, u31, u32, u33, u34, u35, u36, u37, u38, u39, u40, u41, u42, u43, u44, u45, u46, u47, u48, undef, u50, u51, u52, undef, undef, undef, undef, undef, undef, undef, undef, undef, undef, undef, undef, undef, undef, undef, undef, undef, undef, undef, undef, undef, undef, undef, undef, undef, undef, undef, undef, u81, u82, u83, u84, u85, u86, u87, u88, Value.tuple #[Value.agg #[Value.int IntKind.i64 t380, Value.slice Ao37 (List.length t381) co37], Value.bool t384], Value.string a0, Value.int IntKind.i64 a1, Value.int IntKind.i64 a2, Value.tuple #[Value.agg #[Value.int IntKind.i64 t380, Value.slice Ao37 (List.length t381) co37], Value.bool t384], Value.agg #[Value.int IntKind.i64 t380, Value.slice Ao37 (List.length t381) co37], u95, Value.tuple #[Value.agg #[Value.int IntKind.i64 t386, Value.slice Ao48 (List.length t387) co48], Value.bool t390], Value.string a0, Value.int IntKind.i64 a1, u99, u100, u101, u102, u103, u104, u105, u106, u107, u108, u109, u110, u111, u112, u113, u114, u115, u116, u117, u118, u119, u120, u121, u122, u123, u124, u125, u126, u127, u128, u129, u130, u131, u132, u133, u134, u135, u136, u137, u138, u139, u140, u141, u142, u143, u144, u145, u146, u147, u148, u149, u150, u151, u152, u153, u154, u155, u156, u157, u158, u159, u160, u161, u162, u163, u164, u165, u166, u167, u168, u169, u170, u171, u172, u173, u174, u175, u176, u177, u178, u179, u180, u181, u182, u183, u184, u185, u186, u187, u188, u189, u190, u191, u192, u193, u194, u195, u196, u197, u198, u199, u200, u201, u202, u203, u204, u205, u206, u207, u208, u209, u210, u211, u212, u213, u214, u215, u216, u217, u218, u219, u220, u221, u222, u223, u224, u225, u226, u227, u228, u229, u230, u231, u232, u233, u234, u235, u236, u237, u238, u239, u240, u241, u242, u243, u244, u245, u246, u247, u248, u249, u250, u251, u252, u253, u254, u255, undef, undef, undef, undef, undef, undef, undef, undef, undef, undef, undef, undef, undef, undef, undef, undef, undef, undef, undef, undef, undef, undef, undef, undef, undef, undef, undef, undef, undef, undef, undef, undef, undef, undef, undef, undef, undef, undef, undef, undef, undef, undef, undef, undef, undef, undef, undef, undef, undef, undef, undef, undef, undef, undef, undef, undef, undef, undef, undef, undef, undef, undef, undef, undef, undef, undef, undef, undef, undef, undef, undef, undef, undef, undef, undef, undef, undef, undef, undef, undef, undef, undef, undef, undef, undef, undef, undef, undef, undef, undef, undef, undef, undef, undef, undef, undef, undef, undef, undef, undef, undef, undef, undef, undef, undef, undef, undef, undef, undef, undef, undef, undef, undef, undef, undef, undef, undef, undef, undef, undef, undef, undef, undef, undef, undef, undef, undef, undef, undef, undef, undef, undef, undef, undef, undef, undef, undef, undef, undef, undef, undef, undef, undef, undef, undef, undef, undef, undef, undef, undef, undef, undef, undef, undef, undef, undef, undef, undef, undef, undef, undef, undef, undef, undef, undef, undef, undef, undef, undef, undef, undef, undef, undef, undef, undef, undef, undef, undef, undef, undef, undef, undef, undef, undef, undef, undef, undef, undef, undef, undef, undef, undef, undef, undef, undef, undef, undef, undef, undef, undef, undef, undef, undef, undef, undef, undef, undef, undef, undef, undef, undef, undef, undef, undef, undef, undef], defers := [] } wc := by
 conv in cdd _ _ => whnf
 try dsimp only
 cases kq with
 | zero => exact absurd HA.out (by simp [laws_FnRowsHiddenOfAll.j4])
 | succ kj26 =>
  have H := HA.out
  clear HA
  simp only [laws_FnRowsHiddenOfAll.j4] at H
  replace H := ob H
  obtain ⟨⟨t423, t424, t427⟩, A153, H⟩ := H
  (try dsimp only at H)
  replace H := ob H
  obtain ⟨⟨t429, t430, t433⟩, A154, H⟩ := H
  (try dsimp only at H)
  replace H := ob H
  obtain ⟨⟨t435, t436⟩, A155, H⟩ := H
  (try dsimp only at H)
  have HC156 := Aside0.mk H
  clear H
  have hnb157 := nb NB374_375
  have hnb158 := nb NB374_376
  have hnb159 := nb NB374_377
  have hnb160 := nb NB374_378
  have hnb161 := nb NB374_379
  have hcz162_0 : wc.cell? ⟨gb374, 0, none⟩ = some (.int .i64 a3_0) := ec BK374
  have hcz162_1 : wc.cell? ⟨gb374, 1, none⟩ = some (.slice A3_1 l3_1.length c3_1) := ec BK374
  have hfz162_0 := blk_frozen BK374.out 0
  have hfz162_1 := blk_frozen BK374.out 1
  go_upto_region 42 with (first | ((with_reducible refine gc 13 ?_); refine gl (some 258) Tryz.func13 #[.agg #[.int .i64 a3_0, .slice A3_1 l3_1.length c3_1]] ?_; (with_reducible refine (impl_HarderPuzzle.calls kj26 a3_0 _ _ l3_1 t423 t424 t427 _ ?_ ?_ ?_ A153.out).mono ?_); exact Dr.mm HMM; exact cb HR3_1; exact HC3_1.out; rintro e w163 ⟨v425, rfl, ho0, hb⟩; refine ⟨_, rfl, ?_⟩; have HO426 := Aside0.mk (Kd.R_lower (Kd.R_newB (Kd.R_newB (Kd.R_newB ho0 (pk BK376)) (pk BK378)) (pk BK379)) (below_size bw)); replace BK374 := nk BK374 hb; replace BK375 := nk BK375 hb; replace BK376 := nk BK376 hb; replace BK377 := nk BK377 hb; replace BK378 := nk BK378 hb; replace BK379 := nk BK379 hb; replace HB := bs hb; (try clear hb); (try clear ho0)) | ((with_reducible refine gd 53 ?_); (try (refine gate_guard (by rfl) ?_; dsimp only)); refine bx 53 24 #[.int .i64 0, .slice none 0 0] ?_; intro gb428 hg w164 hbox hb; replace HO426 := rl HO426 hb; have BK428 := hbox; have GW428 := gs hg; have GE428 := gs hg; replace HB := bs hb; have ⟨NB374_428, NB428_374⟩ := nn BK374 hg; replace BK374 := nk BK374 hb; have ⟨NB375_428, NB428_375⟩ := nn BK375 hg; replace BK375 := nk BK375 hb; have ⟨NB376_428, NB428_376⟩ := nn BK376 hg; replace BK376 := nk BK376 hb; have ⟨NB377_428, NB428_377⟩ := nn BK377 hg; replace BK377 := nk BK377 hb; have ⟨NB378_428, NB428_378⟩ := nn BK378 hg; replace BK378 := nk BK378 hb; have ⟨NB379_428, NB428_379⟩ := nn BK379 hg; replace BK379 := nk BK379 hb; clear hb hbox hg; have hnb165 := nb NB428_374; have hnb166 := nb NB428_375; have hnb167 := nb NB428_376; have hnb168 := nb NB428_377; have hnb169 := nb NB428_378; have hnb170 := nb NB428_379; obtain ⟨hcz171_0, hcz171_1, hfz171_0, hfz171_1⟩ := z2 BK428; obtain ⟨Ao172, co172, eo172⟩ := Kd.R_slice HO426.out; subst eo172; obtain ⟨hcz173_0, hcz173_1, hfz173_0, hfz173_1⟩ := z2 BK374) | ((with_reducible refine gc 14 ?_); refine gl (some 263) Tryz.func14 #[.agg #[.int .i64 a3_0, .slice A3_1 l3_1.length c3_1]] ?_; (with_reducible refine (spec_HarderPuzzle.calls kj26 a3_0 _ _ l3_1 t429 t430 t433 _ ?_ ?_ A154.out).mono ?_); exact Kd.C_below HR3_1.out bw; exact HC3_1.out; rintro e w174 ⟨v431, rfl, ho0, hb⟩; refine ⟨_, rfl, ?_⟩; have HO432 := Aside0.mk (Kd.R_lower (Kd.R_newB (Kd.R_newB (Kd.R_newB (Kd.R_new' ho0 (Kd.R_lt (qf HO426))) (pf BK376)) (pf BK378)) (pf BK379)) (below_size bw)); replace HO426 := Aside0.mk (Kd.R_elder' (qf HO426) (Kd.R_base ho0) hb); replace BK374 := nf BK374 hb; replace BK375 := nf BK375 hb; replace BK376 := nf BK376 hb; replace BK377 := nf BK377 hb; replace BK378 := nf BK378 hb; replace BK379 := nf BK379 hb; replace BK428 := Aside0.mk (blk_below (g := gb428) (o := .cells #[.int .i64 t423, .slice Ao172 t424.length co172] 24 (0, 0)) (pz BK428) hb); replace HB := bs hb; (try clear hb); (try clear ho0)) | ((with_reducible refine gd 55 ?_); (try (refine gate_guard (by rfl) ?_; dsimp only)); refine bx 55 24 #[.int .i64 0, .slice none 0 0] ?_; intro gb434 hg w175 hbox hb; replace HO426 := rl HO426 hb; replace HO432 := rl HO432 hb; have BK434 := hbox; have GW434 := gs hg; have GE434 := gs hg; replace HB := bs hb; have ⟨NB374_434, NB434_374⟩ := nn BK374 hg; replace BK374 := nk BK374 hb; have ⟨NB375_434, NB434_375⟩ := nn BK375 hg; replace BK375 := nk BK375 hb; have ⟨NB376_434, NB434_376⟩ := nn BK376 hg; replace BK376 := nk BK376 hb; have ⟨NB377_434, NB434_377⟩ := nn BK377 hg; replace BK377 := nk BK377 hb; have ⟨NB378_434, NB434_378⟩ := nn BK378 hg; replace BK378 := nk BK378 hb; have ⟨NB379_434, NB434_379⟩ := nn BK379 hg; replace BK379 := nk BK379 hb; have ⟨NB428_434, NB434_428⟩ := nn BK428 hg; replace BK428 := nk BK428 hb; clear hb hbox hg; have hnb176 := nb NB434_374; have hnb177 := nb NB434_375; have hnb178 := nb NB434_376; have hnb179 := nb NB434_377; have hnb180 := nb NB434_378; have hnb181 := nb NB434_379; have hnb182 := nb NB434_428; obtain ⟨hcz183_0, hcz183_1, hfz183_0, hfz183_1⟩ := z2 BK434; obtain ⟨Ao184, co184, eo184⟩ := Kd.R_slice HO432.out; subst eo184; obtain ⟨hcz185_0, hcz185_1, hfz185_0, hfz185_1⟩ := z2 BK374) | ((with_reducible refine gc 15 ?_); refine gl (some 268) Tryz.func15 #[.agg #[.int .i64 a3_0, .slice A3_1 l3_1.length c3_1]] ?_; (with_reducible refine (impl_IsSolved.calls kj26 a3_0 _ _ l3_1 t435 t436 _ ?_ ?_ ?_ A155.out).mono ?_); exact Dr.mm HMM; exact Kd.C_below HR3_1.out bw; exact HC3_1.out; rintro e w186 ⟨rfl, hb⟩; refine ⟨_, rfl, ?_⟩; replace HO426 := Aside0.mk (Kd.R_below (qf HO426) hb); replace HO432 := Aside0.mk (Kd.R_below (qf HO432) hb); replace BK374 := nf BK374 hb; replace BK375 := nf BK375 hb; replace BK376 := nf BK376 hb; replace BK377 := nf BK377 hb; replace BK378 := nf BK378 hb; replace BK379 := nf BK379 hb; replace BK428 := nf BK428 hb; replace BK434 := Aside0.mk (blk_below (g := gb434) (o := .cells #[.int .i64 t429, .slice Ao184 t430.length co184] 24 (0, 0)) (pz BK434) hb); replace HB := bs hb; (try clear hb)))
  (try simp only [Act.put, List.setIfInBounds_toArray, List.set_cons_zero, List.set_cons_succ])
  go_cut [211, 218, 224, 225, 226, 227, 228, 229, 230, 231, 232, 233, 234, 235, 247, 248, 249, 250, 251, 252, 253, 254, 257, 258, 259, 260, 261, 262, 263, 264, 265, 266, 267, 268, 269, 270, 287] from 9999 (fun _ _ _ _ _ _ _ _ _ _ _ _ _ _ _ _ _ _ _ _ _ _ _ _ _ _ _ _ _ _ _ _ _ _ _ _ v287 wc => ∃ (kq : Nat) (x287_155 : Bool), v287 = .bool x287_155 ∧ Aside0 (laws_FnRowsHiddenOfAll.j5 kq a7 a9 a10 t427 x287_155 a3_0 l3_1 a4_0 l4_1 a5_0 a5_1 a5_2 a5_3 a6_0 l6_1 a8_0 a8_1 a8_2 a8_3 a11_0 a11_1 a11_2 a11_3 t423 t424 = some r) ∧ Aside0 (kq ≤ kj26) ∧ Aside0 (Kd.R k26 26 wc w.heap.size (fun k_ => k_ ≠ gb376 ∧ k_ ≠ gb378 ∧ k_ ≠ gb379) (.slice Ao172 t424.length co172) t424) ∧ Aside0 (wc.heap[gb374]? = some (.cells #[.int .i64 a3_0, (.slice A3_1 l3_1.length c3_1)] 24 (0, 0))) ∧ Aside0 (wc.heap[gb375]? = some (.cells #[.int .i64 a4_0, (.slice A4_1 l4_1.length c4_1)] 24 (0, 0))) ∧ Aside0 (wc.heap[gb376]? = some (.cells #[.int .i64 a5_0, .int .i64 a5_1, .int .i64 a5_2, .int .i64 a5_3] 26 (0, 0))) ∧ Aside0 (wc.heap[gb377]? = some (.cells #[.int .i64 a6_0, (.slice A6_1 l6_1.length c6_1)] 24 (0, 0))) ∧ Aside0 (wc.heap[gb378]? = some (.cells #[.int .i64 a8_0, .int .i64 a8_1, .int .i64 a8_2, .int .i64 a8_3] 26 (0, 0))) ∧ Aside0 (wc.heap[gb379]? = some (.cells #[.int .i64 a11_0, .int .i64 a11_1, .int .i64 a11_2, .int .i64 a11_3] 26 (0, 0))) ∧ Aside0 (wc.heap[gb428]? = some (.cells #[.int .i64 t423, (.slice Ao172 t424.length co172)] 24 (0, 0))) ∧ Aside0 (Below w.heap.size w wc))
  case first =>
   rename_i J3_ K3_ hJ3_ hM3_
   have H := HC156.out
   clear HC156
   replace H := ofl HRT H
   obtain ⟨c187, H⟩ := H
   have c187b0 : (t427 != t433) = false := by simpa using c187
   (try (have c187b1 : decide (t427 = t433) = true := by simpa using c187))
   (try (have c187b2 : (t427 == t433) = true := by simpa using c187))
   clear c187
   (first | rw [c187b0] | rw [@decide_eq_true _ _ (of_decide_eq_true c187b1)] | rw [@decide_eq_false _ _ (of_decide_eq_false c187b1)] | (simp only [i64_w, i32_w]; rw [c187b0]) | skip)
   replace H := ob H
   obtain ⟨t437, A188, H⟩ := H
   (try dsimp only at H)
   replace H := ofr HRT H
   obtain ⟨c189, H⟩ := H
   subst c189
   by_cases c190 : t436 = true
   ·subst c190
    rw [if_pos rfl] at H
    have H' := Aside0.mk H
    clear H
    have hnb191 := nb NB428_374
    have hnb192 := nb NB428_375
    have hnb193 := nb NB428_376
    have hnb194 := nb NB428_377
    have hnb195 := nb NB428_378
    have hnb196 := nb NB428_379
    have hnb197 := nb NB428_434
    obtain ⟨hcz198_0, hcz198_1, hfz198_0, hfz198_1⟩ := z2 BK428
    have hnb199 := nb NB434_374
    have hnb200 := nb NB434_375
    have hnb201 := nb NB434_376
    have hnb202 := nb NB434_377
    have hnb203 := nb NB434_378
    have hnb204 := nb NB434_379
    obtain ⟨hcz205_0, hcz205_1, hfz205_0, hfz205_1⟩ := z2 BK434
    go_wp2_with (first | (go_at_call 6; (with_reducible refine (laws_vPuzzle.calls kj26 t423 _ _ t424 t429 _ _ t430 true _ ?_ ?_ ?_ ?_ A188.out).mono ?_); exact rr HO426; exact rn HO426; exact rr HO432; exact rn HO432; rintro e w206 ⟨rfl, hb⟩; replace HO426 := rl HO426 hb; replace HO432 := rl HO432 hb; replace BK374 := nk BK374 hb; replace BK375 := nk BK375 hb; replace BK376 := nk BK376 hb; replace BK377 := nk BK377 hb; replace BK378 := nk BK378 hb; replace BK379 := nk BK379 hb; replace BK428 := nk BK428 hb; replace HB := bs hb; (try clear hb)))
    go_meet
    case rel => exact ⟨_, ((t427 != t435)), (rs), H', ⟨by have := HJ12.out; have := HJ26.out; first | omega | exact Nat.le_refl _⟩, ⟨by (with_reducible repeat (first | apply Kd.R_alloc | apply Kd.R_drewN | apply Kd.R_drew)); exact Kd.R_mono HO426.out (fun _ hk => ⟨hk.1.1.1.2, ⟨hk.1.1.2, hk.1.2⟩⟩)⟩, ⟨pk BK374⟩, ⟨pk BK375⟩, ⟨pk BK376⟩, ⟨pk BK377⟩, ⟨pk BK378⟩, ⟨pk BK379⟩, ⟨pk BK428⟩, ⟨bw⟩⟩
   replace c190 := Bool.eq_false_iff.mpr c190
   subst c190
   rw [if_neg (show ¬ (false = true) by decide)] at H
   have H' := Aside0.mk H
   clear H
   have hnb207 := nb NB428_374
   have hnb208 := nb NB428_375
   have hnb209 := nb NB428_376
   have hnb210 := nb NB428_377
   have hnb211 := nb NB428_378
   have hnb212 := nb NB428_379
   have hnb213 := nb NB428_434
   obtain ⟨hcz214_0, hcz214_1, hfz214_0, hfz214_1⟩ := z2 BK428
   have hnb215 := nb NB434_374
   have hnb216 := nb NB434_375
   have hnb217 := nb NB434_376
   have hnb218 := nb NB434_377
   have hnb219 := nb NB434_378
   have hnb220 := nb NB434_379
   obtain ⟨hcz221_0, hcz221_1, hfz221_0, hfz221_1⟩ := z2 BK434
   go_wp2_with (first | (go_at_call 6; (with_reducible refine (laws_vPuzzle.calls kj26 t423 _ _ t424 t429 _ _ t430 true _ ?_ ?_ ?_ ?_ A188.out).mono ?_); exact rr HO426; exact rn HO426; exact rr HO432; exact rn HO432; rintro e w222 ⟨rfl, hb⟩; replace HO426 := rl HO426 hb; replace HO432 := rl HO432 hb; replace BK374 := nk BK374 hb; replace BK375 := nk BK375 hb; replace BK376 := nk BK376 hb; replace BK377 := nk BK377 hb; replace BK378 := nk BK378 hb; replace BK379 := nk BK379 hb; replace BK428 := nk BK428 hb; replace HB := bs hb; (try clear hb)))
   go_meet
   case rel => exact ⟨_, ((t427 != false)), (rs), H', ⟨by have := HJ12.out; have := HJ26.out; first | omega | exact Nat.le_refl _⟩, ⟨by (with_reducible repeat (first | apply Kd.R_alloc | apply Kd.R_drewN | apply Kd.R_drew)); exact Kd.R_mono HO426.out (fun _ hk => ⟨hk.1.1.1.2, ⟨hk.1.1.2, hk.1.2⟩⟩)⟩, ⟨pk BK374⟩, ⟨pk BK375⟩, ⟨pk BK376⟩, ⟨pk BK377⟩, ⟨pk BK378⟩, ⟨pk BK379⟩, ⟨pk BK428⟩, ⟨bw⟩⟩
  case rest =>
   clear HC156
   repeat (first|clear c16|clear c17|clear c18|clear c19|clear c22|clear c157|clear c158|clear c159|clear c160|clear c161|clear c165|clear c166|clear c167|clear c168|clear c169|clear c170|clear c176|clear c177|clear c178|clear c179|clear c180|clear c181|clear c182|clear c187|clear c187b0|clear c187b1|clear c187b2|clear c191|clear c192|clear c193|clear c194|clear c195|clear c196|clear c197|clear c199|clear c200|clear c201|clear c202|clear c203|clear c204|clear c207|clear c208|clear c209|clear c210|clear c211|clear c212|clear c213|clear c215|clear c216|clear c217|clear c218|clear c219|clear c220|clear hcz162_0|clear hcz162_1|clear hcz171_0|clear hcz171_1|clear hcz173_0|clear hcz173_1|clear hcz183_0|clear hcz183_1|clear hcz185_0|clear hcz185_1|clear hcz198_0|clear hcz198_1|clear hcz205_0|clear hcz205_1|clear hcz214_0|clear hcz214_1|clear hcz221_0|clear hcz221_1|clear hfz162_0|clear hfz162_1|clear hfz171_0|clear hfz171_1|clear hfz173_0|clear hfz173_1|clear hfz183_0|clear hfz183_1|clear hfz185_0|clear hfz185_1|clear hfz198_0|clear hfz198_1|clear hfz205_0|clear hfz205_1|clear hfz214_0|clear hfz214_1|clear hfz221_0|clear hfz221_1)
   obtain ⟨kq, x287_155, rfl, HA, HJ155, HO_429001, BK374, BK375, BK376, BK377, BK378, BK379, BK428, HB⟩ := hcut
   go_step
   exact laws_FnRowsHiddenOfAll.r3 k a0 a1 a2 a3_0 A3_1 c3_1 l3_1 a4_0 A4_1 c4_1 l4_1 a5_0 a5_1 a5_2 a5_3 a6_0 A6_1 c6_1 l6_1 a7 a8_0 a8_1 a8_2 a8_3 a9 a10 a11_0 a11_1 a11_2 a11_3 r w HR3_1 HC3_1 HR4_1 HC4_1 HR6_1 HC6_1 HRT HMM gb374 gb375 NB374_375 gb376 NB374_376 NB375_376 gb377 NB374_377 NB375_377 NB376_377 gb378 NB374_378 NB375_378 NB376_378 NB377_378 gb379 NB374_379 NB375_379 NB376_379 NB377_379 NB378_379 u81 u82 u85 u86 kj12 HJ12 t380 t381 t384 t386 t387 t390 gb385 Ao37 co37 gb391 Ao48 co48 u24 u29 u30 u31 u32 u33 u34 u35 u36 u37 u38 u39 u40 u41 u42 u43 u44 u45 u46 u47 u48 u50 u51 u52 u83 u84 u87 u88 u95 u99 u100 u101 u102 u103 u104 u105 u106 u107 u108 u109 u110 u111 u112 u113 u114 u115 u116 u117 u118 u119 u120 u121 u122 u123 u124 u125 u126 u127 u128 u129 u130 u131 u132 u133 u134 u135 u136 u137 u138 u139 u140 u141 u142 u143 u144 u145 u146 u147 u148 u149 u150 u151 u152 u153 u154 u155 u156 u157 u158 u159 u160 u161 u162 u163 u164 u165 u166 u167 u168 u169 u170 u171 u172 u173 u174 u175 u176 u177 u178 u179 u180 u181 u182 u183 u184 u185 u186 u187 u188 u189 u190 u191 u192 u193 u194 u195 u196 u197 u198 u199 u200 u201 u202 u203 u204 u205 u206 u207 u208 u209 u210 u212 u213 u214 u215 u216 u217 u219 u220 u221 u222 u223 u236 u237 u238 u239 u240 u241 u242 u243 u244 u245 u246 u255 kj26 HJ26 t423 t424 t427 A153 t433 t435 t436 gb428 NB374_428 NB428_375 NB428_376 NB428_377 NB428_378 NB428_379 Ao172 co172 gb434 _ (by assumption) wc u211 u218 u224 u225 u226 u227 u228 u229 u230 u231 u232 u233 u234 u235 u247 u248 u249 u250 u251 u252 u253 u254 u257 u258 u259 u260 u261 u262 u263 u264 u265 u266 u267 u268 u269 u270 u271 u272 u273 u274 u275 u276 u277 u278 u279 u280 u281 u282 u283 u284 u285 u286 kq x287_155 HA HJ155 HO_429001 BK374 BK375 BK376 BK377 BK378 BK379 BK428 HB

set_option maxHeartbeats 80000000 in
set_option maxRecDepth 100000 in
theorem laws_FnRowsHiddenOfAll.r1
 (k : Nat)
 (a0 : ByteArray)
 (a1 a2 a3_0 : Int)
 (A3_1 : Option Addr)
 (c3_1 : Nat)
 (l3_1 : List S26)
 (a4_0 : Int)
 (A4_1 : Option Addr)
 (c4_1 : Nat)
 (l4_1 : List S26)
 (a5_0 a5_1 a5_2 a5_3 a6_0 : Int)
 (A6_1 : Option Addr)
 (c6_1 : Nat)
 (l6_1 : List S26)
 (a7 a8_0 a8_1 a8_2 a8_3 : Int)
 (a9 : ByteArray)
 (a10 a11_0 a11_1 a11_2 a11_3 : Int)
 (r : Bool)
 (w : World)
 (HR3_1 : Aside0 (Kd.C k26 w A3_1 (List.length l3_1) l3_1))
 (HC3_1 : Aside0 (List.length l3_1 ≤ c3_1))
 (HR4_1 : Aside0 (Kd.C k26 w A4_1 (List.length l4_1) l4_1))
 (HC4_1 : Aside0 (List.length l4_1 ≤ c4_1))
 (HR6_1 : Aside0 (Kd.C k26 w A6_1 (List.length l6_1) l6_1))
 (HC6_1 : Aside0 (List.length l6_1 ≤ c6_1))
 (HRT : Aside0 (r = true))
 (HMM : Aside0 (Dr.Tab w))
 (gb374 gb375 : Nat)
 (NB374_375 : Aside0 (gb374 ≠ gb375))
 (gb376 : Nat)
 (NB374_376 : Aside0 (gb374 ≠ gb376))
 (NB375_376 : Aside0 (gb375 ≠ gb376))
 (gb377 : Nat)
 (NB374_377 : Aside0 (gb374 ≠ gb377))
 (NB375_377 : Aside0 (gb375 ≠ gb377))
 (NB376_377 : Aside0 (gb376 ≠ gb377))
 (gb378 : Nat)
 (NB374_378 : Aside0 (gb374 ≠ gb378))
 (NB375_378 : Aside0 (gb375 ≠ gb378))
 (NB376_378 : Aside0 (gb376 ≠ gb378))
 (NB377_378 : Aside0 (gb377 ≠ gb378))
 (gb379 : Nat)
 (NB374_379 : Aside0 (gb374 ≠ gb379))
 (NB375_379 : Aside0 (gb375 ≠ gb379))
 (NB376_379 : Aside0 (gb376 ≠ gb379))
 (NB377_379 : Aside0 (gb377 ≠ gb379))
 (NB378_379 : Aside0 (gb378 ≠ gb379))
 (x1_ : Act → World → Prop)
 (x2_ : ∀ (a : Act) (w_1 : World), Code.wp Tryz.prog (cdd Tryz.f3 [1, 1]) (bodyPost Tryz.prog Tryz.f3 fun e w' => e = Ending.returned (Value.bool r) ∧ Below (Array.size w.heap) w w') a w_1 → x1_ a w_1)
 (wc : World)
 (u81 u82 u83 u84 u85 u86 u87 : Value)
 (kq : Nat)
 (x88_12 : Bool)
 (HA : Aside0 (j0 kq a0 a1 a2 a7 a9 a10 x88_12 a3_0 l3_1 a4_0 l4_1 a5_0 a5_1 a5_2 a5_3 a6_0 l6_1 a8_0 a8_1 a8_2 a8_3 a11_0 a11_1 a11_2 a11_3 = some r))
 (HJ12 : Aside0 (kq ≤ k))
 (BK374 : Aside0 (wc.heap[gb374]? = some (Obj.cells #[Value.int IntKind.i64 a3_0, Value.slice A3_1 (List.length l3_1) c3_1] 24)))
 (BK375 : Aside0 (wc.heap[gb375]? = some (Obj.cells #[Value.int IntKind.i64 a4_0, Value.slice A4_1 (List.length l4_1) c4_1] 24)))
 (BK376 : Aside0 (wc.heap[gb376]? = some (Obj.cells #[Value.int IntKind.i64 a5_0, Value.int IntKind.i64 a5_1, Value.int IntKind.i64 a5_2, Value.int IntKind.i64 a5_3] 26)))
 (BK377 : Aside0 (wc.heap[gb377]? = some (Obj.cells #[Value.int IntKind.i64 a6_0, Value.slice A6_1 (List.length l6_1) c6_1] 24)))
 (BK378 : Aside0 (wc.heap[gb378]? = some (Obj.cells #[Value.int IntKind.i64 a8_0, Value.int IntKind.i64 a8_1, Value.int IntKind.i64 a8_2, Value.int IntKind.i64 a8_3] 26)))
 (BK379 : Aside0 (wc.heap[gb379]? = some (Obj.cells #[Value.int IntKind.i64 a11_0, Value.int IntKind.i64 a11_1, Value.int IntKind.i64 a11_2, Value.int IntKind.i64 a11_3] 26)))
 (HB : Aside0 (Below (Array.size w.heap) w wc)) :
 Code.wp Tryz.prog (cdd Tryz.f3 [1, 0, 1]) (Exit.then x1_ (bodyPost Tryz.prog Tryz.f3 fun e w' => e = Ending.returned (Value.bool r) ∧ Below (Array.size w.heap) w w')) { tmps := #[Value.string a0, Value.int IntKind.i64 a1, Value.int IntKind.i64 a2, Value.agg #[Value.int IntKind.i64 a3_0, Value.slice A3_1 (List.length l3_1) c3_1], Value.agg #[Value.int IntKind.i64 a4_0, Value.slice A4_1 (List.length l4_1) c4_1], Value.agg #[Value.int IntKind.i64 a5_0, Value.int IntKind.i64 a5_1, Value.int IntKind.i64 a5_2, Value.int IntKind.i64 a5_3], Value.agg #[Value.int IntKind.i64 a6_0, Value.slice A6_1 (List.length l6_1) c6_1], Value.int IntKind.i64 a7, Value.agg #[Value.int IntKind.i64 a8_0, Value.int IntKind.i64 a8_1, Value.int IntKind.i64 a8_2, Value.int IntKind.i64 a8_3], Value.string a9, Value.int IntKind.i64 a10, Value.agg #[Value.int IntKind.i64 a11_0, Value.int IntKind.i64 a11_1, Value.int IntKind.i64 a11_2, Value.int IntKind.i64 a11_3], undef, undef, undef, Value.pointer (some { block := gb374, off := 0 }), Value.pointer (some { block := gb375, off := 0 }), Value.pointer (some { block := gb376, off := 0 }), Value.pointer (some { block := gb377, off := 0 }), undef, Value.pointer (some { block := gb378, off := 0 }), undef, undef, Value.pointer (some { block := gb379, off := 0 }), Value.bool false, undef, undef, undef, undef, undef, undef, undef, undef, undef, undef, undef, undef, undef, undef, undef, undef, undef, undef, undef, undef, undef, undef, undef, undef, undef, undef, undef, undef, undef, undef, undef, undef, undef, undef, undef, undef, undef, undef, undef, undef, undef, undef, undef, undef, undef, undef, undef, undef, undef, undef, undef, undef, undef, undef, undef, undef, u81, u82, u83, u84, u85, u86, u87, Value.bool x88_12, undef, undef, undef, undef, undef, undef, undef, undef, undef, undef, undef, undef, undef, undef, undef, undef, undef, undef, undef, undef, undef, undef, undef, undef, undef, undef, undef, undef, undef, undef, undef, undef, undef, undef, undef, undef, undef, undef, undef, undef, undef, undef, undef, undef, undef, undef, undef, undef, undef, undef, undef, undef, undef, undef, undef, undef, undef, undef, undef, undef, undef, undef, undef, undef, undef, undef, undef, undef, undef, undef, undef, undef, undef, undef, undef, undef, undef, undef, undef, undef, undef, undef, undef, undef, undef, undef, undef, undef, undef, undef, undef, undef, undef, undef, undef, undef, undef, undef, undef, undef, undef, undef, undef, undef, undef, undef, undef, undef, undef, undef, undef, undef, undef, undef, undef, undef, undef, undef, undef, undef, undef, undef, undef, undef, undef, undef, undef, undef, undef, undef, undef, undef, undef, undef, undef, undef, undef, undef, undef, undef, undef, undef, undef, undef, undef, undef, undef, undef, undef, undef, undef, undef, undef, undef, undef, undef, undef, undef, undef, undef, undef, undef, undef, undef, undef, undef, undef, undef, undef, undef, undef, undef, undef, undef, undef, undef, undef, undef, undef, undef, undef, undef, undef, undef, undef, undef, undef, undef, undef, undef, undef, undef, undef, undef, undef, undef, undef, undef, undef, undef, undef, undef, undef, undef, undef, undef, undef, undef, undef, undef, undef, undef, undef, undef, undef, undef, undef, undef, undef, undef, undef, undef, undef, undef, undef, undef, undef, undef, undef, undef, undef, undef, undef, undef, undef, undef, undef, undef, undef, undef, undef, undef, undef, undef, undef, undef, undef, undef, undef, undef, undef, undef, undef, undef, undef, undef, undef, undef, undef, undef, undef, undef, undef, undef, undef, undef, undef, undef, undef, undef, undef, undef, undef, undef, undef, undef, undef, undef, undef, undef, undef, undef, undef, undef, undef, undef, undef, undef, undef, undef, undef, undef, undef, undef, undef, undef, undef, undef, undef, undef, undef, undef, undef, undef, undef, undef, undef, undef, undef, undef, undef, undef, undef, undef, undef, undef, undef, undef, undef, undef, undef, undef, undef, undef, undef, undef, undef, undef, undef, undef, undef, undef, undef, undef, undef, undef, undef, undef, undef, undef, undef, undef, undef, undef, undef, undef, undef, undef, undef, undef, undef, undef, undef, undef, undef, undef, undef, undef, undef, undef, undef, undef, undef, undef, undef, undef, undef, undef, undef, undef, undef, undef, undef, undef, undef, undef, undef, undef, undef, undef, undef, undef, undef], defers := [] } wc := by
 conv at x2_ in cdd _ _ => whnf
 conv in cdd _ _ => whnf
 try dsimp only
 cases kq with
 | zero => exact absurd HA.out (by simp [laws_FnRowsHiddenOfAll.j0])
 | succ kj12 =>
  have H := HA.out
  clear HA
  simp only [laws_FnRowsHiddenOfAll.j0] at H
  by_cases c21 : x88_12 = true
  ·subst c21
   rw [if_pos rfl] at H
   obtain rfl := Option.some.inj H
   go_wp2
   go_ret
   exact ⟨rs, bw⟩
  replace c21 := Bool.eq_false_iff.mpr c21
  subst c21
  rw [if_neg (show ¬ (false = true) by decide)] at H
  replace H := ob H
  obtain ⟨⟨t380, t381, t384⟩, A22, H⟩ := H
  (try dsimp only at H)
  replace H := ob H
  obtain ⟨⟨t386, t387, t390⟩, A23, H⟩ := H
  (try dsimp only at H)
  replace H := ofl HRT H
  obtain ⟨c24, H⟩ := H
  have c24b0 : (t384 != t390) = false := by simpa using c24
  (try (have c24b1 : decide (t384 = t390) = true := by simpa using c24))
  (try (have c24b2 : (t384 == t390) = true := by simpa using c24))
  clear c24
  replace H := ob H
  obtain ⟨t392, A25, H⟩ := H
  (try dsimp only at H)
  replace H := ofr HRT H
  obtain ⟨c26, H⟩ := H
  subst c26
  have HC27 := Aside0.mk H
  clear H
  go_upto_if 112 with (first | ((with_reducible refine gc 4 ?_); refine gl (some 93) Tryz.func4 #[.string a0, .int .i64 a1, .int .i64 a2] ?_; (with_reducible refine (impl_MakePuzzle.calls kj12 a0 a1 a2 t380 t381 t384 _ ?_ A22.out).mono ?_); exact Dr.mm HMM; rintro e w28 ⟨v382, rfl, ho0, hb⟩; refine ⟨_, rfl, ?_⟩; have HO383 := Aside0.mk (Kd.R_lower (Kd.R_newB (Kd.R_newB (Kd.R_newB ho0 (pk BK376)) (pk BK378)) (pk BK379)) (below_size bw)); replace BK374 := nk BK374 hb; replace BK375 := nk BK375 hb; replace BK376 := nk BK376 hb; replace BK377 := nk BK377 hb; replace BK378 := nk BK378 hb; replace BK379 := nk BK379 hb; replace HB := bs hb; (try clear hb); (try clear ho0)) | ((with_reducible refine gd 25 ?_); (try (refine gate_guard (by rfl) ?_; dsimp only)); refine bx 25 24 #[.int .i64 0, .slice none 0 0] ?_; intro gb385 hg w29 hbox hb; replace HO383 := rl HO383 hb; have BK385 := hbox; have GW385 := gs hg; have GE385 := gs hg; replace HB := bs hb; have ⟨NB374_385, NB385_374⟩ := nn BK374 hg; replace BK374 := nk BK374 hb; have ⟨NB375_385, NB385_375⟩ := nn BK375 hg; replace BK375 := nk BK375 hb; have ⟨NB376_385, NB385_376⟩ := nn BK376 hg; replace BK376 := nk BK376 hb; have ⟨NB377_385, NB385_377⟩ := nn BK377 hg; replace BK377 := nk BK377 hb; have ⟨NB378_385, NB385_378⟩ := nn BK378 hg; replace BK378 := nk BK378 hb; have ⟨NB379_385, NB385_379⟩ := nn BK379 hg; replace BK379 := nk BK379 hb; clear hb hbox hg; have hnb30 := nb NB385_374; have hnb31 := nb NB385_375; have hnb32 := nb NB385_376; have hnb33 := nb NB385_377; have hnb34 := nb NB385_378; have hnb35 := nb NB385_379; obtain ⟨hcz36_0, hcz36_1, hfz36_0, hfz36_1⟩ := z2 BK385; obtain ⟨Ao37, co37, eo37⟩ := Kd.R_slice HO383.out; subst eo37) | ((with_reducible refine gc 5 ?_); refine gl (some 100) Tryz.func5 #[.string a0, .int .i64 a1, .int .i64 a2] ?_; (with_reducible refine (spec_MakePuzzle.calls kj12 a0 a1 a2 t386 t387 t390 _ A23.out).mono ?_); rintro e w38 ⟨v388, rfl, ho0, hb⟩; refine ⟨_, rfl, ?_⟩; have HO389 := Aside0.mk (Kd.R_lower (Kd.R_newB (Kd.R_newB (Kd.R_newB (Kd.R_new' ho0 (Kd.R_lt (qf HO383))) (pf BK376)) (pf BK378)) (pf BK379)) (below_size bw)); replace HO383 := Aside0.mk (Kd.R_elder' (qf HO383) (Kd.R_base ho0) hb); replace BK374 := nf BK374 hb; replace BK375 := nf BK375 hb; replace BK376 := nf BK376 hb; replace BK377 := nf BK377 hb; replace BK378 := nf BK378 hb; replace BK379 := nf BK379 hb; replace BK385 := Aside0.mk (blk_below (g := gb385) (o := .cells #[.int .i64 t380, .slice Ao37 t381.length co37] 24 (0, 0)) (pz BK385) hb); replace HB := bs hb; (try clear hb); (try clear ho0)) | ((with_reducible refine gd 27 ?_); (try (refine gate_guard (by rfl) ?_; dsimp only)); refine bx 27 24 #[.int .i64 0, .slice none 0 0] ?_; intro gb391 hg w39 hbox hb; replace HO383 := rl HO383 hb; replace HO389 := rl HO389 hb; have BK391 := hbox; have GW391 := gs hg; have GE391 := gs hg; replace HB := bs hb; have ⟨NB374_391, NB391_374⟩ := nn BK374 hg; replace BK374 := nk BK374 hb; have ⟨NB375_391, NB391_375⟩ := nn BK375 hg; replace BK375 := nk BK375 hb; have ⟨NB376_391, NB391_376⟩ := nn BK376 hg; replace BK376 := nk BK376 hb; have ⟨NB377_391, NB391_377⟩ := nn BK377 hg; replace BK377 := nk BK377 hb; have ⟨NB378_391, NB391_378⟩ := nn BK378 hg; replace BK378 := nk BK378 hb; have ⟨NB379_391, NB391_379⟩ := nn BK379 hg; replace BK379 := nk BK379 hb; have ⟨NB385_391, NB391_385⟩ := nn BK385 hg; replace BK385 := nk BK385 hb; clear hb hbox hg; have hnb40 := nb NB391_374; have hnb41 := nb NB391_375; have hnb42 := nb NB391_376; have hnb43 := nb NB391_377; have hnb44 := nb NB391_378; have hnb45 := nb NB391_379; have hnb46 := nb NB391_385; obtain ⟨hcz47_0, hcz47_1, hfz47_0, hfz47_1⟩ := z2 BK391; obtain ⟨Ao48, co48, eo48⟩ := Kd.R_slice HO389.out; subst eo48; obtain ⟨hcz49_0, hcz49_1, hfz49_0, hfz49_1⟩ := z2 BK385) | (go_at_call 6; (with_reducible refine (laws_vPuzzle.calls kj12 t380 _ _ t381 t386 _ _ t387 true _ ?side1 ?side2 ?side3 ?side4 A25.out).mono ?_); (case side1 => refine (Kd.R_reads' (e := 26) (base := w.heap.size) (ok := fun k_ => ((((True ∧ k_ ≠ gb376) ∧ k_ ≠ gb378) ∧ k_ ≠ gb379) ∧ some k_ ≠ (.slice Ao48 t387.length co48 : Value).ownBlock)) (n := t381.length) (c := co37) ?_).2.2; exact (qf HO383)); (case side2 => exact rn HO383); (case side3 => refine (Kd.R_reads' (e := 26) (base := w.heap.size) (ok := fun k_ => ((((True ∧ some k_ ≠ (.slice Ao37 t381.length co37 : Value).ownBlock) ∧ k_ ≠ gb376) ∧ k_ ≠ gb378) ∧ k_ ≠ gb379)) (n := t387.length) (c := co48) ?_).2.2; exact (qf HO389)); (case side4 => exact rn HO389); rintro e w50 ⟨rfl, hb⟩; replace HO383 := Aside0.mk (Kd.R_below (qf HO383) hb); replace HO389 := Aside0.mk (Kd.R_below (qf HO389) hb); replace BK374 := nf BK374 hb; replace BK375 := nf BK375 hb; replace BK376 := nf BK376 hb; replace BK377 := nf BK377 hb; replace BK378 := nf BK378 hb; replace BK379 := nf BK379 hb; replace BK385 := nf BK385 hb; replace BK391 := Aside0.mk (blk_below (g := gb391) (o := .cells #[.int .i64 t386, .slice Ao48 t387.length co48] 24 (0, 0)) (pz BK391) hb); replace HB := bs hb; (try clear hb)))
  (try simp only [Act.put, List.setIfInBounds_toArray, List.set_cons_zero, List.set_cons_succ])
  go_cut [83, 84, 87, 88, 95, 99, 100, 101, 102, 103, 104, 105, 106, 107, 108, 109, 110, 111, 112] from 9999 (fun _ _ _ _ _ _ _ _ _ _ _ _ _ _ _ _ _ _ _ wc => ∃ (kq : Nat), Aside0 (laws_FnRowsHiddenOfAll.j4 kq a7 a9 a10 a3_0 l3_1 a4_0 l4_1 a5_0 a5_1 a5_2 a5_3 a6_0 l6_1 a8_0 a8_1 a8_2 a8_3 a11_0 a11_1 a11_2 a11_3 = some r) ∧ Aside0 (kq ≤ kj12) ∧ Aside0 (wc.heap[gb374]? = some (.cells #[.int .i64 a3_0, (.slice A3_1 l3_1.length c3_1)] 24 (0, 0))) ∧ Aside0 (wc.heap[gb375]? = some (.cells #[.int .i64 a4_0, (.slice A4_1 l4_1.length c4_1)] 24 (0, 0))) ∧ Aside0 (wc.heap[gb376]? = some (.cells #[.int .i64 a5_0, .int .i64 a5_1, .int .i64 a5_2, .int .i64 a5_3] 26 (0, 0))) ∧ Aside0 (wc.heap[gb377]? = some (.cells #[.int .i64 a6_0, (.slice A6_1 l6_1.length c6_1)] 24 (0, 0))) ∧ Aside0 (wc.heap[gb378]? = some (.cells #[.int .i64 a8_0, .int .i64 a8_1, .int .i64 a8_2, .int .i64 a8_3] 26 (0, 0))) ∧ Aside0 (wc.heap[gb379]? = some (.cells #[.int .i64 a11_0, .int .i64 a11_1, .int .i64 a11_2, .int .i64 a11_3] 26 (0, 0))) ∧ Aside0 (Below w.heap.size w wc))
  case first =>
   rename_i J2_ K2_ hJ2_ hM2_
   have H := HC27.out
   clear HC27
   by_cases c51 : t384 = true
   ·subst c51
    rw [if_pos rfl] at H
    replace H := ob H
    obtain ⟨⟨t393, t394⟩, A52, H⟩ := H
    (try dsimp only at H)
    replace H := ob H
    obtain ⟨⟨t395, t396⟩, A53, H⟩ := H
    (try dsimp only at H)
    replace H := ob H
    obtain ⟨⟨t397, t398⟩, A54, H⟩ := H
    (try dsimp only at H)
    replace H := ob H
    obtain ⟨⟨t401, t402⟩, A55, H⟩ := H
    (try dsimp only at H)
    replace H := ob H
    obtain ⟨⟨t403, t404⟩, A56, H⟩ := H
    (try dsimp only at H)
    replace H := ob H
    obtain ⟨t407, A57, H⟩ := H
    (try dsimp only at H)
    replace H := ofr HRT H
    obtain ⟨c58, H⟩ := H
    subst c58
    replace H := ofr HRT H
    obtain ⟨c59, H⟩ := H
    have c59b0 : ((t381.length : Int) == a1) = true := beq_iff_eq.mpr c59
    have c59b1 : ((t381.length : Int) != a1) = false := bne_eq_false_iff_eq.mpr c59
    clear c59
    (first | rw [c59b0] | rw [@decide_eq_true _ _ (of_decide_eq_true c59b1)] | rw [@decide_eq_false _ _ (of_decide_eq_false c59b1)] | (simp only [i64_w, i32_w]; rw [c59b0]) | skip)
    replace H := ofr HRT H
    obtain ⟨c60, H⟩ := H
    subst c60
    replace H := ofr HRT H
    obtain ⟨c61, H⟩ := H
    subst c61
    replace H := ofr HRT H
    obtain ⟨c62, H⟩ := H
    subst c62
    replace H := ofr HRT H
    obtain ⟨c63, H⟩ := H
    subst c63
    replace H := ofr HRT H
    obtain ⟨c64, H⟩ := H
    subst c64
    replace H := ofr HRT H
    obtain ⟨c65, H⟩ := H
    subst c65
    replace H := ofr HRT H
    obtain ⟨c66, H⟩ := H
    subst c66
    have H' := Aside0.mk H
    clear H
    go_wp2_with (first | ((with_reducible refine gc 7 ?_); refine gl (some 115) Tryz.func7 #[.string a0] ?_; (with_reducible refine (impl_TicksToRest.calls kj12 a0 t393 true _ ?_ A52.out).mono ?_); exact Dr.mm HMM; rintro e w67 ⟨rfl, hb⟩; refine ⟨_, rfl, ?_⟩; replace HO383 := rl HO383 hb; replace HO389 := rl HO389 hb; replace BK374 := nk BK374 hb; replace BK375 := nk BK375 hb; replace BK376 := nk BK376 hb; replace BK377 := nk BK377 hb; replace BK378 := nk BK378 hb; replace BK379 := nk BK379 hb; replace BK385 := nk BK385 hb; replace BK391 := nk BK391 hb; replace HB := bs hb; (try clear hb)) | ((with_reducible refine gc 8 ?_); refine gl (some 122) Tryz.func8 #[.agg #[.int .i64 2, .int .i64 0, .int .i64 0, .int .i64 t393], .string a0] ?_; (with_reducible refine (impl_DoesFit.calls kj12 2 0 0 t393 a0 true true _ ?_ A53.out).mono ?_); exact Dr.mm HMM; rintro e w68 ⟨rfl, hb⟩; refine ⟨_, rfl, ?_⟩; replace HO383 := rl HO383 hb; replace HO389 := rl HO389 hb; replace BK374 := nk BK374 hb; replace BK375 := nk BK375 hb; replace BK376 := nk BK376 hb; replace BK377 := nk BK377 hb; replace BK378 := nk BK378 hb; replace BK379 := nk BK379 hb; replace BK385 := nk BK385 hb; replace HB := bs hb; (try clear hb)) | ((with_reducible refine gc 9 ?_); refine gl (some 127) Tryz.func9 #[.string a0] ?_; (with_reducible refine (impl_FacingPairs.calls kj12 a0 t397 true _ A54.out).mono ?_); rintro e w69 ⟨v399, rfl, ho0, hb⟩; refine ⟨_, rfl, ?_⟩; replace HO383 := rl HO383 hb; replace HO389 := rl HO389 hb; have HO400 := Aside0.mk (Kd.R_lower ho0 (below_size bw)); replace BK374 := nk BK374 hb; replace BK375 := nk BK375 hb; replace BK376 := nk BK376 hb; replace BK377 := nk BK377 hb; replace BK378 := nk BK378 hb; replace BK379 := nk BK379 hb; replace BK385 := nk BK385 hb; replace HB := bs hb; (try clear hb); (try clear ho0); obtain ⟨Ao70, co70, eo70⟩ := Kd.R_slice HO400.out; subst eo70) | ((with_reducible refine gc 8 ?_); refine gl (some 135) Tryz.func8 #[.agg #[.int .i64 3, .int .i64 0, .int .i64 0, .int .i64 (t397.length : Int)], .string a0] ?_; (with_reducible refine (impl_DoesFit.calls kj12 3 0 0 (t397.length : Int) a0 true true _ ?_ A55.out).mono ?_); exact Dr.mm HMM; rintro e w71 ⟨rfl, hb⟩; refine ⟨_, rfl, ?_⟩; replace HO383 := rl HO383 hb; replace HO389 := rl HO389 hb; replace HO400 := rl HO400 hb; replace BK374 := nk BK374 hb; replace BK375 := nk BK375 hb; replace BK376 := nk BK376 hb; replace BK377 := nk BK377 hb; replace BK378 := nk BK378 hb; replace BK379 := nk BK379 hb; replace BK385 := nk BK385 hb; replace HB := bs hb; (try clear hb)) | ((with_reducible refine gc 10 ?_); refine gl (some 140) Tryz.func10 #[.string a0] ?_; (with_reducible refine (impl_TurnsOfEach.calls kj12 a0 t403 true _ ?_ A56.out).mono ?_); exact Dr.mm HMM; rintro e w72 ⟨v405, rfl, ho0, hb⟩; refine ⟨_, rfl, ?_⟩; replace HO383 := rl HO383 hb; replace HO389 := rl HO389 hb; have HO406 := Aside0.mk (Kd.R_lower (Kd.R_new' ho0 (Kd.R_lt (pr HO400))) (below_size bw)); replace HO400 := re HO400 ho0 hb; replace BK374 := nk BK374 hb; replace BK375 := nk BK375 hb; replace BK376 := nk BK376 hb; replace BK377 := nk BK377 hb; replace BK378 := nk BK378 hb; replace BK379 := nk BK379 hb; replace BK385 := nk BK385 hb; replace HB := bs hb; (try clear hb); (try clear ho0); have hnb73 := nb NB385_374; have hnb74 := nb NB385_375; have hnb75 := nb NB385_376; have hnb76 := nb NB385_377; have hnb77 := nb NB385_378; have hnb78 := nb NB385_379; obtain ⟨hcz79_0, hcz79_1, hfz79_0, hfz79_1⟩ := z2 BK385) | ((with_reducible refine gc 11 ?_); refine gl (some 144) Tryz.func11 #[.agg #[.int .i64 t380, .slice Ao37 t381.length co37]] ?_; (with_reducible refine (impl_IsPuzzle.calls kj12 t380 _ _ t381 true _ ?_ ?_ A57.out).mono ?_); exact rr HO383; exact rn HO383; rintro e w80 ⟨rfl, hb⟩; refine ⟨_, rfl, ?_⟩; replace HO383 := rl HO383 hb; replace HO389 := rl HO389 hb; replace HO400 := rl HO400 hb; replace HO406 := rl HO406 hb; replace BK374 := nk BK374 hb; replace BK375 := nk BK375 hb; replace BK376 := nk BK376 hb; replace BK377 := nk BK377 hb; replace BK378 := nk BK378 hb; replace BK379 := nk BK379 hb; replace BK385 := nk BK385 hb; replace HB := bs hb; (try clear hb); obtain ⟨hcz81_0, hcz81_1, hfz81_0, hfz81_1⟩ := z2 BK385; obtain ⟨Ao82, co82, eo82⟩ := Kd.R_slice HO406.out; subst eo82))
    go_loopg [183] kj12 (fun kq v183 w' => ∃ (x183_2 : Int), v183 = .int .i64 x183_2 ∧ Aside0 (laws_FnRowsHiddenOfAll.l0 kq a0 a7 a9 a10 t403 (t403.length : Int) x183_2 a3_0 l3_1 a4_0 l4_1 a5_0 a5_1 a5_2 a5_3 a6_0 l6_1 a8_0 a8_1 a8_2 a8_3 a11_0 a11_1 a11_2 a11_3 t380 t381 = some r) ∧ Aside0 (kq ≤ kj12) ∧ Aside0 (Kd.R (Kd.int .i64) 3 w' w.heap.size (fun _ => True) (.slice Ao82 t403.length co82) t403) ∧ Aside0 (Kd.R k26 26 w' w.heap.size (fun k_ => k_ ≠ gb376 ∧ k_ ≠ gb378 ∧ k_ ≠ gb379) (.slice Ao37 t381.length co37) t381) ∧ Aside0 (w'.heap[gb374]? = some (.cells #[.int .i64 a3_0, (.slice A3_1 l3_1.length c3_1)] 24 (0, 0))) ∧ Aside0 (w'.heap[gb375]? = some (.cells #[.int .i64 a4_0, (.slice A4_1 l4_1.length c4_1)] 24 (0, 0))) ∧ Aside0 (w'.heap[gb376]? = some (.cells #[.int .i64 a5_0, .int .i64 a5_1, .int .i64 a5_2, .int .i64 a5_3] 26 (0, 0))) ∧ Aside0 (w'.heap[gb377]? = some (.cells #[.int .i64 a6_0, (.slice A6_1 l6_1.length c6_1)] 24 (0, 0))) ∧ Aside0 (w'.heap[gb378]? = some (.cells #[.int .i64 a8_0, .int .i64 a8_1, .int .i64 a8_2, .int .i64 a8_3] 26 (0, 0))) ∧ Aside0 (w'.heap[gb379]? = some (.cells #[.int .i64 a11_0, .int .i64 a11_1, .int .i64 a11_2, .int .i64 a11_3] 26 (0, 0))) ∧ Aside0 (w'.heap[gb385]? = some (.cells #[.int .i64 t380, (.slice Ao37 t381.length co37)] 24 (0, 0))) ∧ Aside0 (Below w.heap.size w w'))
    case atStart => exact ⟨(0), (rs), H', ⟨Nat.le_refl _⟩, ⟨by (with_reducible repeat (first | apply Kd.R_alloc | apply Kd.R_drewN | apply Kd.R_drew)); exact Kd.R_mono HO406.out (fun _ hk => trivial)⟩, ⟨by (with_reducible repeat (first | apply Kd.R_alloc | apply Kd.R_drewN | apply Kd.R_drew)); exact Kd.R_mono HO383.out (fun _ hk => ⟨hk.1.1.1.2, ⟨hk.1.1.2, hk.1.2⟩⟩)⟩, ⟨pk BK374⟩, ⟨pk BK375⟩, ⟨pk BK376⟩, ⟨pk BK377⟩, ⟨pk BK378⟩, ⟨pk BK379⟩, ⟨pk BK385⟩, ⟨bw⟩⟩
    case round =>
     clear H'
     repeat (first|clear c1|clear c5|clear c7|clear c8|clear c9|clear c10|clear c11|clear c24|clear c24b0|clear c24b1|clear c24b2|clear c30|clear c31|clear c32|clear c33|clear c34|clear c35|clear c40|clear c41|clear c42|clear c43|clear c44|clear c45|clear c46|clear c59|clear c59b0|clear c59b1|clear c73|clear c74|clear c75|clear c76|clear c77|clear c78|clear hcz36_0|clear hcz36_1|clear hcz47_0|clear hcz47_1|clear hcz49_0|clear hcz49_1|clear hcz79_0|clear hcz79_1|clear hcz81_0|clear hcz81_1|clear hfz36_0|clear hfz36_1|clear hfz47_0|clear hfz47_1|clear hfz49_0|clear hfz49_1|clear hfz79_0|clear hfz79_1|clear hfz81_0|clear hfz81_1)
     obtain ⟨x183_2, rfl, HA, HK2, HO_181, HO_386001, BK374, BK375, BK376, BK377, BK378, BK379, BK385, HB⟩ := hrel
     cases gk with
     | zero => exact absurd HA.out (by simp [laws_FnRowsHiddenOfAll.l0])
     | succ k2 =>
      have H := HA.out
      clear HA
      simp only [laws_FnRowsHiddenOfAll.l0] at H
      by_cases c83 : x183_2 < (t403.length : Int)
      ·rw [if_pos c83] at H
       have c83b0 := decide_eq_true c83
       clear c83
       replace H := oi H
       obtain ⟨c84, H⟩ := H
       have c84b0 := decide_eq_true c84
       clear c84
       replace H := oi H
       obtain ⟨c85, H⟩ := H
       have c85b0 := decide_eq_true c85
       clear c85
       replace H := ob H
       obtain ⟨⟨t409, t410⟩, A86, H⟩ := H
       (try dsimp only at H)
       replace H := ofr HRT H
       obtain ⟨c87, H⟩ := H
       subst c87
       replace H := ofr HRT H
       obtain ⟨c88, H⟩ := H
       subst c88
       have H' := Aside0.mk H
       clear H
       have p408 : 0 ≤ (x183_2 : Int) := of_decide_eq_true asm
       have q408 : x183_2 < (t403.length : Int) := of_decide_eq_true asm
       obtain ⟨ad408, e408, hx408_0⟩ := Kd.at_int (Kd.R_reads' HO_181.out).2.2 x183_2 p408 q408
       cases e408
       replace p408 := eq_true p408
       replace q408 := eq_true q408
       go_wp2_with (first | ((with_reducible refine gc 8 ?_); refine gl (some 193) Tryz.func8 #[.agg #[.int .i64 4, .int .i64 x183_2, .int .i64 0, .int .i64 (rd t403 x183_2)], .string a0] ?_; (with_reducible refine (impl_DoesFit.calls k2 4 x183_2 0 (rd t403 x183_2) a0 true true _ ?_ A86.out).mono ?_); exact Dr.mm HMM; rintro e w89 ⟨rfl, hb⟩; refine ⟨_, rfl, ?_⟩; replace HO_181 := rl HO_181 hb; replace HO_386001 := rl HO_386001 hb; replace BK374 := nk BK374 hb; replace BK375 := nk BK375 hb; replace BK376 := nk BK376 hb; replace BK377 := nk BK377 hb; replace BK378 := nk BK378 hb; replace BK379 := nk BK379 hb; replace BK385 := nk BK385 hb; replace HB := bs hb; (try clear hb)))
       go_roundg k2
       case measure => have := HJ12.out; have := HK2.out; omega
       case rel => exact ⟨(wrap64 (x183_2 + 1)), (rs), H', ⟨by have := HJ12.out; have := HK2.out; omega⟩, ⟨pr HO_181⟩, ⟨pr HO_386001⟩, ⟨pk BK374⟩, ⟨pk BK375⟩, ⟨pk BK376⟩, ⟨pk BK377⟩, ⟨pk BK378⟩, ⟨pk BK379⟩, ⟨pk BK385⟩, ⟨bw⟩⟩
      rw [if_neg c83] at H
      have c83b0 := decide_eq_false c83
      clear c83
      replace H := ob H
      obtain ⟨⟨t411, t412⟩, A90, H⟩ := H
      (try dsimp only at H)
      have H' := Aside0.mk H
      clear H
      go_wp2_with (first | ((with_reducible refine gc 12 ?_); refine gl (some 205) Tryz.func12 #[.string a0, .int .i64 2] ?_; (with_reducible refine (impl_RowAfter.calls k2 a0 2 t411 t412 _ ?_ A90.out).mono ?_); exact Dr.mm HMM; rintro e w91 ⟨rfl, hb⟩; refine ⟨_, rfl, ?_⟩; replace HO_181 := rl HO_181 hb; replace HO_386001 := rl HO_386001 hb; replace BK374 := nk BK374 hb; replace BK375 := nk BK375 hb; replace BK376 := nk BK376 hb; replace BK377 := nk BK377 hb; replace BK378 := nk BK378 hb; replace BK379 := nk BK379 hb; replace BK385 := nk BK385 hb; replace HB := bs hb; (try clear hb)) | ((with_reducible refine gd 209 ?_); (try (refine gate_guard (by rfl) ?_; dsimp only)); refine iter_event ?hg (N := 209) ?hd (s := t411) ?hx Tryz.underlying9 ?_; (case hd => rfl); (case hg => rfl); (case hx => exact ⟨_, rfl, by first | rfl | (go_simp; done) | (go_simp; rfl)⟩); intro gb413 hg w92 hbox hb; replace HO_181 := rl HO_181 hb; replace HO_386001 := rl HO_386001 hb; have IT413 := Aside0.mk (hbox); have GW413 := gs hg; have GE413 := gs hg; replace HB := bs hb; have ⟨NB374_413, NB413_374⟩ := nn BK374 hg; replace BK374 := nk BK374 hb; have ⟨NB375_413, NB413_375⟩ := nn BK375 hg; replace BK375 := nk BK375 hb; have ⟨NB376_413, NB413_376⟩ := nn BK376 hg; replace BK376 := nk BK376 hb; have ⟨NB377_413, NB413_377⟩ := nn BK377 hg; replace BK377 := nk BK377 hb; have ⟨NB378_413, NB413_378⟩ := nn BK378 hg; replace BK378 := nk BK378 hb; have ⟨NB379_413, NB413_379⟩ := nn BK379 hg; replace BK379 := nk BK379 hb; have ⟨NB385_413, NB413_385⟩ := nn BK385 hg; replace BK385 := nk BK385 hb; clear hb hbox hg))
      (try simp only [Act.put, List.setIfInBounds_toArray, List.set_cons_zero, List.set_cons_succ])
      go_loopg [] k2 (fun kq w' => ∃ (x414000_3 : Int), Aside0 (laws_FnRowsHiddenOfAll.l1 kq a0 a7 a9 a10 t411 t412 a3_0 l3_1 a4_0 l4_1 a5_0 a5_1 a5_2 a5_3 a6_0 l6_1 a8_0 a8_1 a8_2 a8_3 a11_0 a11_1 a11_2 a11_3 t380 t381 x414000_3 t411 = some r) ∧ Aside0 (kq ≤ k2) ∧ Aside0 (Kd.R k26 26 w' w.heap.size (fun k_ => k_ ≠ gb376 ∧ k_ ≠ gb378 ∧ k_ ≠ gb379) (.slice Ao37 t381.length co37) t381) ∧ Aside0 (w'.heap[gb374]? = some (.cells #[.int .i64 a3_0, (.slice A3_1 l3_1.length c3_1)] 24 (0, 0))) ∧ Aside0 (w'.heap[gb375]? = some (.cells #[.int .i64 a4_0, (.slice A4_1 l4_1.length c4_1)] 24 (0, 0))) ∧ Aside0 (w'.heap[gb376]? = some (.cells #[.int .i64 a5_0, .int .i64 a5_1, .int .i64 a5_2, .int .i64 a5_3] 26 (0, 0))) ∧ Aside0 (w'.heap[gb377]? = some (.cells #[.int .i64 a6_0, (.slice A6_1 l6_1.length c6_1)] 24 (0, 0))) ∧ Aside0 (w'.heap[gb378]? = some (.cells #[.int .i64 a8_0, .int .i64 a8_1, .int .i64 a8_2, .int .i64 a8_3] 26 (0, 0))) ∧ Aside0 (w'.heap[gb379]? = some (.cells #[.int .i64 a11_0, .int .i64 a11_1, .int .i64 a11_2, .int .i64 a11_3] 26 (0, 0))) ∧ Aside0 (w'.heap[gb385]? = some (.cells #[.int .i64 t380, (.slice Ao37 t381.length co37)] 24 (0, 0))) ∧ Aside0 (w'.heap[gb413]? = some (.stringIter t411 (x414000_3 : Int).toNat)) ∧ Aside0 (Below w.heap.size w w'))
      case atStart => exact ⟨(0), H', ⟨Nat.le_refl _⟩, ⟨pr HO_386001⟩, ⟨pk BK374⟩, ⟨pk BK375⟩, ⟨pk BK376⟩, ⟨pk BK377⟩, ⟨pk BK378⟩, ⟨pk BK379⟩, ⟨pk BK385⟩, ⟨by (with_reducible repeat (first | apply b1 | apply b2 | apply b3)); exact IT413.out⟩, ⟨bw⟩⟩
      case round =>
       clear H'
       repeat (first|clear p4|clear q4|clear hx4|clear p6|clear c12|clear p40|clear q40|clear hx40|clear p64|clear c83|clear c83b0|clear c84|clear c84b0|clear c85|clear c85b0|clear hx408_0|clear p408|clear q408)
       obtain ⟨x414000_3, HA, HK3, HO_386001, BK374, BK375, BK376, BK377, BK378, BK379, BK385, IT413, HB⟩ := hrel
       cases gk with
       | zero => exact absurd HA.out (by simp [laws_FnRowsHiddenOfAll.l1])
       | succ k3 =>
        have H := HA.out
        clear HA
        simp only [laws_FnRowsHiddenOfAll.l1] at H
        by_cases c93 : x414000_3 < (t411.size : Int)
        ·rw [if_pos c93] at H
         have c93b0 := decide_eq_true c93
         clear c93
         replace H := oi H
         obtain ⟨c94, H⟩ := H
         have c94b0 := eq_true c94
         have c94b1 := decide_eq_true c94
         clear c94
         replace H := oi H
         obtain ⟨c95, H⟩ := H
         have c95b0 := eq_true c95
         have c95b1 := decide_eq_true c95
         clear c95
         replace H := oi H
         obtain ⟨c96, H⟩ := H
         have c96b0 := decide_eq_true c96
         clear c96
         by_cases c98 : (bt t411 x414000_3) = 62
         ·rw [if_pos c98] at H
          have c98b0 : ((bt t411 x414000_3) == 62) = true := beq_iff_eq.mpr c98
          have c98b1 : ((bt t411 x414000_3) != 62) = false := bne_eq_false_iff_eq.mpr c98
          clear c98
          replace H := ob H
          obtain ⟨⟨t415, t416⟩, A99, H⟩ := H
          (try dsimp only at H)
          replace H := ofr HRT H
          obtain ⟨c100, H⟩ := H
          subst c100
          replace H := ofr HRT H
          obtain ⟨c101, H⟩ := H
          subst c101
          replace H := ofr HRT H
          obtain ⟨c102, H⟩ := H
          subst c102
          have H' := Aside0.mk H
          clear H
          go_wp2_with (first | ((with_reducible refine gd 210 ?_); (try (refine gate_guard (by rfl) ?_; dsimp only)); refine next_event ?hg (N := 210) ?hd (g := gb413) (s := t411) (p := x414000_3) ?hx ?hb ?h0 ?h1 ?h2 ?_; (case hd => rfl); (case hg => rfl); (case hx => exact ⟨_, rfl, by first | rfl | (go_simp; done) | (go_simp; rfl)⟩); (case hb => exact (by (with_reducible repeat (first | apply b1 | apply b2 | apply b3)); exact IT413.out)); (case h0 => first | (with_reducible decide) | exact of_decide_eq_true asm); (case h1 => exact of_decide_eq_true asm); (case h2 => exact of_decide_eq_true asm); intro w103 hbox hk; replace HO_386001 := Aside0.mk (Kd.R_turned (pr HO_386001) (by (with_reducible repeat (first | apply b1 | apply b2 | apply b3)); exact IT413.out) hk); replace BK374 := Aside0.mk (hk.blk (o := .cells #[.int .i64 a3_0, .slice A3_1 l3_1.length c3_1] 24 (0, 0)) (pk BK374) NB374_413.out); replace BK375 := Aside0.mk (hk.blk (o := .cells #[.int .i64 a4_0, .slice A4_1 l4_1.length c4_1] 24 (0, 0)) (pk BK375) NB375_413.out); replace BK376 := Aside0.mk (hk.blk (o := .cells #[.int .i64 a5_0, .int .i64 a5_1, .int .i64 a5_2, .int .i64 a5_3] 26 (0, 0)) (pk BK376) NB376_413.out); replace BK377 := Aside0.mk (hk.blk (o := .cells #[.int .i64 a6_0, .slice A6_1 l6_1.length c6_1] 24 (0, 0)) (pk BK377) NB377_413.out); replace BK378 := Aside0.mk (hk.blk (o := .cells #[.int .i64 a8_0, .int .i64 a8_1, .int .i64 a8_2, .int .i64 a8_3] 26 (0, 0)) (pk BK378) NB378_413.out); replace BK379 := Aside0.mk (hk.blk (o := .cells #[.int .i64 a11_0, .int .i64 a11_1, .int .i64 a11_2, .int .i64 a11_3] 26 (0, 0)) (pk BK379) NB379_413.out); replace BK385 := Aside0.mk (hk.blk (o := .cells #[.int .i64 t380, .slice Ao37 t381.length co37] 24 (0, 0)) (pk BK385) NB385_413.out); replace IT413 := Aside0.mk (hbox); replace HB := Aside0.mk (below_turned bw GE413.out hk); clear hbox hk) | ((with_reducible refine gd 46 ?_); (try (refine gate_guard (by rfl) ?_; dsimp only)); refine bx 46 26 #[.int .i64 0, .int .i64 0, .int .i64 0, .int .i64 0] ?_; intro gb414 hg w104 hbox hb; replace HO_386001 := Aside0.mk (Kd.R_below (Kd.R_elderB (pr HO_386001) gb414 (Nat.le_of_eq hg.symm)) hb); have BK414 := hbox; have GW414 := gs hg; have GE414 := gs hg; replace HB := bs hb; have ⟨NB374_414, NB414_374⟩ := nn BK374 hg; replace BK374 := nk BK374 hb; have ⟨NB375_414, NB414_375⟩ := nn BK375 hg; replace BK375 := nk BK375 hb; have ⟨NB376_414, NB414_376⟩ := nn BK376 hg; replace BK376 := nk BK376 hb; have ⟨NB377_414, NB414_377⟩ := nn BK377 hg; replace BK377 := nk BK377 hb; have ⟨NB378_414, NB414_378⟩ := nn BK378 hg; replace BK378 := nk BK378 hb; have ⟨NB379_414, NB414_379⟩ := nn BK379 hg; replace BK379 := nk BK379 hb; have ⟨NB385_414, NB414_385⟩ := nn BK385 hg; replace BK385 := nk BK385 hb; have NB413_414 := Aside0.mk ((by rw [hg]; exact Nat.ne_of_lt (blk_lt (g := gb413) (o := .stringIter t411 (x414000_3 + 1 : Int).toNat) (by (with_reducible repeat (first | apply b1 | apply b2 | apply b3)); exact IT413.out)) : gb413 ≠ gb414)); have NB414_413 := Aside0.mk ((by rw [hg]; exact Nat.ne_of_gt (blk_lt (g := gb413) (o := .stringIter t411 (x414000_3 + 1 : Int).toNat) (by (with_reducible repeat (first | apply b1 | apply b2 | apply b3)); exact IT413.out)) : gb414 ≠ gb413)); replace IT413 := Aside0.mk (blk_below (g := gb413) (o := .stringIter t411 (x414000_3 + 1 : Int).toNat) (by (with_reducible repeat (first | apply b1 | apply b2 | apply b3)); exact IT413.out) hb); clear hb hbox hg; have hnb105 := nb NB414_374; have hnb106 := nb NB414_375; have hnb107 := nb NB414_376; have hnb108 := nb NB414_377; have hnb109 := nb NB414_378; have hnb110 := nb NB414_379; have hnb111 := nb NB414_385; have hnb112 := nb NB414_413; obtain ⟨hcz113_0, hcz113_1, hcz113_2, hcz113_3, hfz113_0, hfz113_1, hfz113_2, hfz113_3⟩ := z4 BK414; have hzz := z4 (⟨pz BK414⟩ : Aside0 ((((((w104.setCell ⟨gb414, 0, none⟩ (.int .i64 0)).setCell ⟨gb414, 1, none⟩ (.int .i64 x414000_3)).setCell ⟨gb414, 2, none⟩ (.int .i64 2)).setCell ⟨gb414, 3, none⟩ (.int .i64 0)).setCell ⟨gb414, 3, none⟩ (.int .i64 1)).heap[gb414]? = some (.cells #[.int .i64 0, .int .i64 x414000_3, .int .i64 2, .int .i64 1] 26 (0, 0)))); have p97 : 0 ≤ (x414000_3 : Int) := of_decide_eq_true asm; have q97 : x414000_3 < (t411.size : Int) := of_decide_eq_true asm; have hx97 := bt_at t411 x414000_3; replace p97 := eq_true p97; replace q97 := eq_true q97) | ((with_reducible refine gc 8 ?_); refine gl (some 223) Tryz.func8 #[.agg #[.int .i64 0, .int .i64 x414000_3, .int .i64 2, .int .i64 1], .string a0] ?_; (with_reducible refine (impl_DoesFit.calls k3 0 x414000_3 2 1 a0 true true _ ?_ A99.out).mono ?_); exact Dr.mm HMM; rintro e w114 ⟨rfl, hb⟩; refine ⟨_, rfl, ?_⟩; replace HO_386001 := Aside0.mk (Kd.R_below (by (with_reducible repeat (first | apply Kd.R_alloc | apply Kd.R_drewN | apply Kd.R_drew)); exact (Kd.R_mono (Kd.R_far (p := ⟨gb414, 3, none⟩) (Kd.R_far (p := ⟨gb414, 3, none⟩) (Kd.R_far (p := ⟨gb414, 2, none⟩) (Kd.R_far (p := ⟨gb414, 1, none⟩) (Kd.R_far (p := ⟨gb414, 0, none⟩) (Kd.R_mono HO_386001.out (fun k_ hk => (⟨hk, hk.2⟩ : _ ∧ k_ ≠ gb414))) (fun _ hk => hk.2) (.int .i64 0)) (fun _ hk => hk.2) (.int .i64 x414000_3)) (fun _ hk => hk.2) (.int .i64 2)) (fun _ hk => hk.2) (.int .i64 0)) (fun _ hk => hk.2) (.int .i64 1)) (fun _ h_ => h_.1))) hb); replace BK374 := nf BK374 hb; replace BK375 := nf BK375 hb; replace BK376 := nf BK376 hb; replace BK377 := nf BK377 hb; replace BK378 := nf BK378 hb; replace BK379 := nf BK379 hb; replace BK385 := nf BK385 hb; replace IT413 := Aside0.mk (blk_below (g := gb413) (o := .stringIter t411 (x414000_3 + 1 : Int).toNat) (by (with_reducible repeat (first | apply b1 | apply b2 | apply b3)); refine it_far ?_ NB413_414.out _; (with_reducible repeat (first | apply b1 | apply b2 | apply b3)); refine it_far ?_ NB413_414.out _; (with_reducible repeat (first | apply b1 | apply b2 | apply b3)); refine it_far ?_ NB413_414.out _; (with_reducible repeat (first | apply b1 | apply b2 | apply b3)); refine it_far ?_ NB413_414.out _; (with_reducible repeat (first | apply b1 | apply b2 | apply b3)); refine it_far ?_ NB413_414.out _; (with_reducible repeat (first | apply b1 | apply b2 | apply b3)); exact IT413.out) hb); replace BK414 := Aside0.mk (blk_below (g := gb414) (o := .cells #[.int .i64 0, .int .i64 x414000_3, .int .i64 2, .int .i64 1] 26 (0, 0)) (pz BK414) hb); replace HB := bs hb; (try clear hb)))
          go_roundg k3
          case measure => have := HJ12.out; have := HK2.out; have := HK3.out; omega
          case rel => exact ⟨(x414000_3 + 1), H', ⟨by have := HJ12.out; have := HK2.out; have := HK3.out; omega⟩, ⟨by (with_reducible repeat (first | apply Kd.R_alloc | apply Kd.R_drewN | apply Kd.R_drew)); exact Kd.R_mono HO_386001.out (fun _ hk => ⟨hk.1.1, ⟨hk.1.2.1, hk.1.2.2⟩⟩)⟩, ⟨pk BK374⟩, ⟨pk BK375⟩, ⟨pk BK376⟩, ⟨pk BK377⟩, ⟨pk BK378⟩, ⟨pk BK379⟩, ⟨pk BK385⟩, ⟨by (with_reducible repeat (first | apply b1 | apply b2 | apply b3)); exact IT413.out⟩, ⟨bw⟩⟩
         rw [if_neg c98] at H
         have c98b0 : ((bt t411 x414000_3) == 62) = false := beq_eq_false_iff_ne.mpr c98
         have c98b1 : ((bt t411 x414000_3) != 62) = true := bne_iff_ne.mpr c98
         replace H := ob H
         obtain ⟨⟨t417, t418⟩, A115, H⟩ := H
         (try dsimp only at H)
         replace H := ofr HRT H
         obtain ⟨c116, H⟩ := H
         subst c116
         replace H := ofr HRT H
         obtain ⟨c117, H⟩ := H
         subst c117
         replace H := ofr HRT H
         obtain ⟨c118, H⟩ := H
         subst c118
         have H' := Aside0.mk H
         clear H
         go_wp2_with (first | ((with_reducible refine gd 210 ?_); (try (refine gate_guard (by rfl) ?_; dsimp only)); refine next_event ?hg (N := 210) ?hd (g := gb413) (s := t411) (p := x414000_3) ?hx ?hb ?h0 ?h1 ?h2 ?_; (case hd => rfl); (case hg => rfl); (case hx => exact ⟨_, rfl, by first | rfl | (go_simp; done) | (go_simp; rfl)⟩); (case hb => exact (by (with_reducible repeat (first | apply b1 | apply b2 | apply b3)); exact IT413.out)); (case h0 => first | (with_reducible decide) | exact of_decide_eq_true asm); (case h1 => exact of_decide_eq_true asm); (case h2 => exact of_decide_eq_true asm); intro w119 hbox hk; replace HO_386001 := Aside0.mk (Kd.R_turned (pr HO_386001) (by (with_reducible repeat (first | apply b1 | apply b2 | apply b3)); exact IT413.out) hk); replace BK374 := Aside0.mk (hk.blk (o := .cells #[.int .i64 a3_0, .slice A3_1 l3_1.length c3_1] 24 (0, 0)) (pk BK374) NB374_413.out); replace BK375 := Aside0.mk (hk.blk (o := .cells #[.int .i64 a4_0, .slice A4_1 l4_1.length c4_1] 24 (0, 0)) (pk BK375) NB375_413.out); replace BK376 := Aside0.mk (hk.blk (o := .cells #[.int .i64 a5_0, .int .i64 a5_1, .int .i64 a5_2, .int .i64 a5_3] 26 (0, 0)) (pk BK376) NB376_413.out); replace BK377 := Aside0.mk (hk.blk (o := .cells #[.int .i64 a6_0, .slice A6_1 l6_1.length c6_1] 24 (0, 0)) (pk BK377) NB377_413.out); replace BK378 := Aside0.mk (hk.blk (o := .cells #[.int .i64 a8_0, .int .i64 a8_1, .int .i64 a8_2, .int .i64 a8_3] 26 (0, 0)) (pk BK378) NB378_413.out); replace BK379 := Aside0.mk (hk.blk (o := .cells #[.int .i64 a11_0, .int .i64 a11_1, .int .i64 a11_2, .int .i64 a11_3] 26 (0, 0)) (pk BK379) NB379_413.out); replace BK385 := Aside0.mk (hk.blk (o := .cells #[.int .i64 t380, .slice Ao37 t381.length co37] 24 (0, 0)) (pk BK385) NB385_413.out); replace IT413 := Aside0.mk (hbox); replace HB := Aside0.mk (below_turned bw GE413.out hk); clear hbox hk) | ((with_reducible refine gd 46 ?_); (try (refine gate_guard (by rfl) ?_; dsimp only)); refine bx 46 26 #[.int .i64 0, .int .i64 0, .int .i64 0, .int .i64 0] ?_; intro gb414 hg w120 hbox hb; replace HO_386001 := Aside0.mk (Kd.R_below (Kd.R_elderB (pr HO_386001) gb414 (Nat.le_of_eq hg.symm)) hb); have BK414 := hbox; have GW414 := gs hg; have GE414 := gs hg; replace HB := bs hb; have ⟨NB374_414, NB414_374⟩ := nn BK374 hg; replace BK374 := nk BK374 hb; have ⟨NB375_414, NB414_375⟩ := nn BK375 hg; replace BK375 := nk BK375 hb; have ⟨NB376_414, NB414_376⟩ := nn BK376 hg; replace BK376 := nk BK376 hb; have ⟨NB377_414, NB414_377⟩ := nn BK377 hg; replace BK377 := nk BK377 hb; have ⟨NB378_414, NB414_378⟩ := nn BK378 hg; replace BK378 := nk BK378 hb; have ⟨NB379_414, NB414_379⟩ := nn BK379 hg; replace BK379 := nk BK379 hb; have ⟨NB385_414, NB414_385⟩ := nn BK385 hg; replace BK385 := nk BK385 hb; have NB413_414 := Aside0.mk ((by rw [hg]; exact Nat.ne_of_lt (blk_lt (g := gb413) (o := .stringIter t411 (x414000_3 + 1 : Int).toNat) (by (with_reducible repeat (first | apply b1 | apply b2 | apply b3)); exact IT413.out)) : gb413 ≠ gb414)); have NB414_413 := Aside0.mk ((by rw [hg]; exact Nat.ne_of_gt (blk_lt (g := gb413) (o := .stringIter t411 (x414000_3 + 1 : Int).toNat) (by (with_reducible repeat (first | apply b1 | apply b2 | apply b3)); exact IT413.out)) : gb414 ≠ gb413)); replace IT413 := Aside0.mk (blk_below (g := gb413) (o := .stringIter t411 (x414000_3 + 1 : Int).toNat) (by (with_reducible repeat (first | apply b1 | apply b2 | apply b3)); exact IT413.out) hb); clear hb hbox hg; have hnb121 := nb NB414_374; have hnb122 := nb NB414_375; have hnb123 := nb NB414_376; have hnb124 := nb NB414_377; have hnb125 := nb NB414_378; have hnb126 := nb NB414_379; have hnb127 := nb NB414_385; have hnb128 := nb NB414_413; obtain ⟨hcz129_0, hcz129_1, hcz129_2, hcz129_3, hfz129_0, hfz129_1, hfz129_2, hfz129_3⟩ := z4 BK414; have p97 : 0 ≤ (x414000_3 : Int) := of_decide_eq_true asm; have q97 : x414000_3 < (t411.size : Int) := of_decide_eq_true asm; have hx97 := bt_at t411 x414000_3; replace p97 := eq_true p97; replace q97 := eq_true q97) | ((with_reducible refine gc 8 ?_); refine gl (some 223) Tryz.func8 #[.agg #[.int .i64 0, .int .i64 x414000_3, .int .i64 2, .int .i64 0], .string a0] ?_; (with_reducible refine (impl_DoesFit.calls k3 0 x414000_3 2 0 a0 true true _ ?_ A115.out).mono ?_); exact Dr.mm HMM; rintro e w130 ⟨rfl, hb⟩; refine ⟨_, rfl, ?_⟩; replace HO_386001 := Aside0.mk (Kd.R_below (by (with_reducible repeat (first | apply Kd.R_alloc | apply Kd.R_drewN | apply Kd.R_drew)); exact (Kd.R_mono (Kd.R_far (p := ⟨gb414, 3, none⟩) (Kd.R_far (p := ⟨gb414, 2, none⟩) (Kd.R_far (p := ⟨gb414, 1, none⟩) (Kd.R_far (p := ⟨gb414, 0, none⟩) (Kd.R_mono HO_386001.out (fun k_ hk => (⟨hk, hk.2⟩ : _ ∧ k_ ≠ gb414))) (fun _ hk => hk.2) (.int .i64 0)) (fun _ hk => hk.2) (.int .i64 x414000_3)) (fun _ hk => hk.2) (.int .i64 2)) (fun _ hk => hk.2) (.int .i64 0)) (fun _ h_ => h_.1))) hb); replace BK374 := nf BK374 hb; replace BK375 := nf BK375 hb; replace BK376 := nf BK376 hb; replace BK377 := nf BK377 hb; replace BK378 := nf BK378 hb; replace BK379 := nf BK379 hb; replace BK385 := nf BK385 hb; replace IT413 := Aside0.mk (blk_below (g := gb413) (o := .stringIter t411 (x414000_3 + 1 : Int).toNat) (by (with_reducible repeat (first | apply b1 | apply b2 | apply b3)); refine it_far ?_ NB413_414.out _; (with_reducible repeat (first | apply b1 | apply b2 | apply b3)); refine it_far ?_ NB413_414.out _; (with_reducible repeat (first | apply b1 | apply b2 | apply b3)); refine it_far ?_ NB413_414.out _; (with_reducible repeat (first | apply b1 | apply b2 | apply b3)); refine it_far ?_ NB413_414.out _; (with_reducible repeat (first | apply b1 | apply b2 | apply b3)); exact IT413.out) hb); replace BK414 := Aside0.mk (blk_below (g := gb414) (o := .cells #[.int .i64 0, .int .i64 x414000_3, .int .i64 2, .int .i64 0] 26 (0, 0)) (pz BK414) hb); replace HB := bs hb; (try clear hb)))
         go_roundg k3
         case measure => have := HJ12.out; have := HK2.out; have := HK3.out; omega
         case rel => exact ⟨(x414000_3 + 1), H', ⟨by have := HJ12.out; have := HK2.out; have := HK3.out; omega⟩, ⟨by (with_reducible repeat (first | apply Kd.R_alloc | apply Kd.R_drewN | apply Kd.R_drew)); exact Kd.R_mono HO_386001.out (fun _ hk => ⟨hk.1.1, ⟨hk.1.2.1, hk.1.2.2⟩⟩)⟩, ⟨pk BK374⟩, ⟨pk BK375⟩, ⟨pk BK376⟩, ⟨pk BK377⟩, ⟨pk BK378⟩, ⟨pk BK379⟩, ⟨pk BK385⟩, ⟨by (with_reducible repeat (first | apply b1 | apply b2 | apply b3)); exact IT413.out⟩, ⟨bw⟩⟩
        rw [if_neg c93] at H
        have c93b0 := decide_eq_false c93
        clear c93
        have H' := Aside0.mk H
        clear H
        go_wp2_with (first | ((with_reducible refine gd 210 ?_); (try (refine gate_guard (by rfl) ?_; dsimp only)); refine next_end_event ?hg (N := 210) ?hd (g := gb413) (s := t411) (p := x414000_3) ?hx ?hb ?h1 ?_; (case hd => rfl); (case hg => rfl); (case hx => exact ⟨_, rfl, by first | rfl | (go_simp; done) | (go_simp; rfl)⟩); (case hb => exact (by (with_reducible repeat (first | apply b1 | apply b2 | apply b3)); exact IT413.out)); (case h1 => exact of_decide_eq_false asm); have hnb131 := nb NB385_374; have hnb132 := nb NB385_375; have hnb133 := nb NB385_376; have hnb134 := nb NB385_377; have hnb135 := nb NB385_378; have hnb136 := nb NB385_379; have hcz137_0 : wr.cell? ⟨gb385, 0, none⟩ = some (.int .i64 t380) := ec BK385; have hcz137_1 : wr.cell? ⟨gb385, 1, none⟩ = some (.slice Ao37 t381.length co37) := ec BK385; have hfz137_0 := blk_frozen BK385.out 0; have hfz137_1 := blk_frozen BK385.out 1))
        go_loopg [239] k3 (fun kq v239 w' => ∃ (x239_4 : Int), v239 = .int .i64 x239_4 ∧ Aside0 (laws_FnRowsHiddenOfAll.l2 kq a0 a7 a9 a10 t381 (t381.length : Int) x239_4 a3_0 l3_1 a4_0 l4_1 a5_0 a5_1 a5_2 a5_3 a6_0 l6_1 a8_0 a8_1 a8_2 a8_3 a11_0 a11_1 a11_2 a11_3 = some r) ∧ Aside0 (kq ≤ k3) ∧ Aside0 (Kd.R k26 26 w' w.heap.size (fun k_ => k_ ≠ gb376 ∧ k_ ≠ gb378 ∧ k_ ≠ gb379) (.slice Ao37 t381.length co37) t381) ∧ Aside0 (w'.heap[gb374]? = some (.cells #[.int .i64 a3_0, (.slice A3_1 l3_1.length c3_1)] 24 (0, 0))) ∧ Aside0 (w'.heap[gb375]? = some (.cells #[.int .i64 a4_0, (.slice A4_1 l4_1.length c4_1)] 24 (0, 0))) ∧ Aside0 (w'.heap[gb376]? = some (.cells #[.int .i64 a5_0, .int .i64 a5_1, .int .i64 a5_2, .int .i64 a5_3] 26 (0, 0))) ∧ Aside0 (w'.heap[gb377]? = some (.cells #[.int .i64 a6_0, (.slice A6_1 l6_1.length c6_1)] 24 (0, 0))) ∧ Aside0 (w'.heap[gb378]? = some (.cells #[.int .i64 a8_0, .int .i64 a8_1, .int .i64 a8_2, .int .i64 a8_3] 26 (0, 0))) ∧ Aside0 (w'.heap[gb379]? = some (.cells #[.int .i64 a11_0, .int .i64 a11_1, .int .i64 a11_2, .int .i64 a11_3] 26 (0, 0))) ∧ Aside0 (Below w.heap.size w w'))
        case atStart => exact ⟨(0), (rs), H', ⟨Nat.le_refl _⟩, ⟨pr HO_386001⟩, ⟨pk BK374⟩, ⟨pk BK375⟩, ⟨pk BK376⟩, ⟨pk BK377⟩, ⟨pk BK378⟩, ⟨pk BK379⟩, ⟨bw⟩⟩
        case round =>
         clear H'
         repeat (first|clear p9|clear q9|clear hx9|clear c13|clear c93|clear c93b0|clear c94|clear c94b0|clear c94b1|clear c95|clear c95b0|clear c95b1|clear c96|clear c96b0|clear p97|clear q97|clear hx97|clear c98|clear c98b0|clear c98b1|clear c105|clear c106|clear c107|clear c108|clear c109|clear c110|clear c111|clear c112|clear c121|clear c122|clear c123|clear c124|clear c125|clear c126|clear c127|clear c128|clear c131|clear c132|clear c133|clear c134|clear c135|clear c136|clear hcz113_0|clear hcz113_1|clear hcz113_2|clear hcz113_3|clear hcz129_0|clear hcz129_1|clear hcz129_2|clear hcz129_3|clear hcz137_0|clear hcz137_1|clear hfz113_0|clear hfz113_1|clear hfz113_2|clear hfz113_3|clear hfz129_0|clear hfz129_1|clear hfz129_2|clear hfz129_3|clear hfz137_0|clear hfz137_1)
         obtain ⟨x239_4, rfl, HA, HK4, HO_237, BK374, BK375, BK376, BK377, BK378, BK379, HB⟩ := hrel
         cases gk with
         | zero => exact absurd HA.out (by simp [laws_FnRowsHiddenOfAll.l2])
         | succ k4 =>
          have H := HA.out
          clear HA
          simp only [laws_FnRowsHiddenOfAll.l2] at H
          by_cases c138 : x239_4 < (t381.length : Int)
          ·rw [if_pos c138] at H
           have c138b0 := decide_eq_true c138
           clear c138
           replace H := oi H
           obtain ⟨c139, H⟩ := H
           have c139b0 := decide_eq_true c139
           clear c139
           replace H := oi H
           obtain ⟨c140, H⟩ := H
           have c140b0 := decide_eq_true c140
           clear c140
           replace H := ob H
           obtain ⟨⟨t421, t422⟩, A141, H⟩ := H
           (try dsimp only at H)
           replace H := ofr HRT H
           obtain ⟨c142, H⟩ := H
           subst c142
           replace H := ofr HRT H
           obtain ⟨c143, H⟩ := H
           subst c143
           have H' := Aside0.mk H
           clear H
           have p419 : 0 ≤ (x239_4 : Int) := of_decide_eq_true asm
           have q419 : x239_4 < (t381.length : Int) := of_decide_eq_true asm
           obtain ⟨ad419, e419, hx419_0, hx419_1, hx419_2, hx419_3⟩ := at_T26 (Kd.R_reads' HO_237.out).2.2 x239_4 p419 q419
           cases e419
           replace p419 := eq_true p419
           replace q419 := eq_true q419
           go_wp2_with (first | ((with_reducible refine gd 50 ?_); (try (refine gate_guard (by rfl) ?_; dsimp only)); refine bx 50 26 #[.int .i64 0, .int .i64 0, .int .i64 0, .int .i64 0] ?_; intro gb420 hg w144 hbox hb; replace HO_237 := Aside0.mk (Kd.R_below (Kd.R_elderB (pr HO_237) gb420 (Nat.le_of_eq hg.symm)) hb); have BK420 := hbox; have GW420 := gs hg; have GE420 := gs hg; replace HB := bs hb; have ⟨NB374_420, NB420_374⟩ := nn BK374 hg; replace BK374 := nk BK374 hb; have ⟨NB375_420, NB420_375⟩ := nn BK375 hg; replace BK375 := nk BK375 hb; have ⟨NB376_420, NB420_376⟩ := nn BK376 hg; replace BK376 := nk BK376 hb; have ⟨NB377_420, NB420_377⟩ := nn BK377 hg; replace BK377 := nk BK377 hb; have ⟨NB378_420, NB420_378⟩ := nn BK378 hg; replace BK378 := nk BK378 hb; have ⟨NB379_420, NB420_379⟩ := nn BK379 hg; replace BK379 := nk BK379 hb; clear hb hbox hg; have hnb145 := nb NB420_374; have hnb146 := nb NB420_375; have hnb147 := nb NB420_376; have hnb148 := nb NB420_377; have hnb149 := nb NB420_378; have hnb150 := nb NB420_379; obtain ⟨hcz151_0, hcz151_1, hcz151_2, hcz151_3, hfz151_0, hfz151_1, hfz151_2, hfz151_3⟩ := z4 BK420) | ((with_reducible refine gc 8 ?_); refine gl (some 246) Tryz.func8 #[.agg #[.int .i64 ((rd_T26 t381 x239_4).f0), .int .i64 ((rd_T26 t381 x239_4).f1), .int .i64 ((rd_T26 t381 x239_4).f2), .int .i64 ((rd_T26 t381 x239_4).f3)], .string a0] ?_; (with_reducible refine (impl_DoesFit.calls k4 ((rd_T26 t381 x239_4).f0) ((rd_T26 t381 x239_4).f1) ((rd_T26 t381 x239_4).f2) ((rd_T26 t381 x239_4).f3) a0 true true _ ?_ A141.out).mono ?_); exact Dr.mm HMM; rintro e w152 ⟨rfl, hb⟩; refine ⟨_, rfl, ?_⟩; replace HO_237 := Aside0.mk (Kd.R_below (by (with_reducible repeat (first | apply Kd.R_alloc | apply Kd.R_drewN | apply Kd.R_drew)); exact (Kd.R_mono (Kd.R_far (p := ⟨gb420, 3, none⟩) (Kd.R_far (p := ⟨gb420, 2, none⟩) (Kd.R_far (p := ⟨gb420, 1, none⟩) (Kd.R_far (p := ⟨gb420, 0, none⟩) (Kd.R_mono HO_237.out (fun k_ hk => (⟨hk, hk.2⟩ : _ ∧ k_ ≠ gb420))) (fun _ hk => hk.2) (.int .i64 ((rd_T26 t381 x239_4).f0))) (fun _ hk => hk.2) (.int .i64 ((rd_T26 t381 x239_4).f1))) (fun _ hk => hk.2) (.int .i64 ((rd_T26 t381 x239_4).f2))) (fun _ hk => hk.2) (.int .i64 ((rd_T26 t381 x239_4).f3))) (fun _ h_ => h_.1))) hb); replace BK374 := nf BK374 hb; replace BK375 := nf BK375 hb; replace BK376 := nf BK376 hb; replace BK377 := nf BK377 hb; replace BK378 := nf BK378 hb; replace BK379 := nf BK379 hb; replace BK420 := Aside0.mk (blk_below (g := gb420) (o := .cells #[.int .i64 ((rd_T26 t381 x239_4).f0), .int .i64 ((rd_T26 t381 x239_4).f1), .int .i64 ((rd_T26 t381 x239_4).f2), .int .i64 ((rd_T26 t381 x239_4).f3)] 26 (0, 0)) (pz BK420) hb); replace HB := bs hb; (try clear hb)))
           go_roundg k4
           case measure => have := HJ12.out; have := HK2.out; have := HK3.out; have := HK4.out; omega
           case rel => exact ⟨(wrap64 (x239_4 + 1)), (rs), H', ⟨by have := HJ12.out; have := HK2.out; have := HK3.out; have := HK4.out; omega⟩, ⟨by (with_reducible repeat (first | apply Kd.R_alloc | apply Kd.R_drewN | apply Kd.R_drew)); exact Kd.R_mono HO_237.out (fun _ hk => ⟨hk.1.1, ⟨hk.1.2.1, hk.1.2.2⟩⟩)⟩, ⟨pk BK374⟩, ⟨pk BK375⟩, ⟨pk BK376⟩, ⟨pk BK377⟩, ⟨pk BK378⟩, ⟨pk BK379⟩, ⟨bw⟩⟩
          rw [if_neg c138] at H
          have c138b0 := decide_eq_false c138
          clear c138
          have H' := Aside0.mk H
          clear H
          go_wp2
          go_meet
          case rel => exact ⟨_, H', ⟨by have := HJ12.out; have := HK2.out; have := HK3.out; have := HK4.out; first | omega | exact Nat.le_refl _⟩, ⟨pk BK374⟩, ⟨pk BK375⟩, ⟨pk BK376⟩, ⟨pk BK377⟩, ⟨pk BK378⟩, ⟨pk BK379⟩, ⟨bw⟩⟩
   replace c51 := Bool.eq_false_iff.mpr c51
   subst c51
   rw [if_neg (show ¬ (false = true) by decide)] at H
   have H' := Aside0.mk H
   clear H
   go_wp2
   go_meet
   case rel => exact ⟨_, H', ⟨by have := HJ12.out; first | omega | exact Nat.le_refl _⟩, ⟨pk BK374⟩, ⟨pk BK375⟩, ⟨pk BK376⟩, ⟨pk BK377⟩, ⟨pk BK378⟩, ⟨pk BK379⟩, ⟨bw⟩⟩
  case rest =>
   clear HC27
   repeat (first|clear c1|clear p4|clear q4|clear hx4|clear c5|clear p6|clear c7|clear c8|clear c9|clear p9|clear q9|clear hx9|clear c10|clear c11|clear c12|clear c13|clear c14|clear c15|clear c24|clear c24b0|clear c24b1|clear c24b2|clear c30|clear c31|clear c32|clear c33|clear c34|clear c35|clear c40|clear p40|clear q40|clear hx40|clear c41|clear p41|clear q41|clear hx41|clear c42|clear c43|clear c44|clear c45|clear c46|clear c59|clear c59b0|clear c59b1|clear p64|clear c73|clear c74|clear c75|clear c76|clear c77|clear c78|clear c83|clear c83b0|clear c84|clear c84b0|clear c85|clear c85b0|clear c93|clear c93b0|clear c94|clear c94b0|clear c94b1|clear c95|clear c95b0|clear c95b1|clear c96|clear c96b0|clear p97|clear q97|clear hx97|clear c98|clear c98b0|clear c98b1|clear c105|clear c106|clear c107|clear c108|clear c109|clear c110|clear c111|clear c112|clear c121|clear c122|clear c123|clear c124|clear c125|clear c126|clear c127|clear c128|clear c131|clear c132|clear c133|clear c134|clear c135|clear c136|clear c138|clear c138b0|clear c139|clear c139b0|clear c140|clear c140b0|clear c145|clear c146|clear c147|clear c148|clear c149|clear c150|clear hcz113_0|clear hcz113_1|clear hcz113_2|clear hcz113_3|clear hcz129_0|clear hcz129_1|clear hcz129_2|clear hcz129_3|clear hcz137_0|clear hcz137_1|clear hcz151_0|clear hcz151_1|clear hcz151_2|clear hcz151_3|clear hcz36_0|clear hcz36_1|clear hcz47_0|clear hcz47_1|clear hcz49_0|clear hcz49_1|clear hcz79_0|clear hcz79_1|clear hcz81_0|clear hcz81_1|clear hfz113_0|clear hfz113_1|clear hfz113_2|clear hfz113_3|clear hfz129_0|clear hfz129_1|clear hfz129_2|clear hfz129_3|clear hfz137_0|clear hfz137_1|clear hfz151_0|clear hfz151_1|clear hfz151_2|clear hfz151_3|clear hfz36_0|clear hfz36_1|clear hfz47_0|clear hfz47_1|clear hfz49_0|clear hfz49_1|clear hfz79_0|clear hfz79_1|clear hfz81_0|clear hfz81_1|clear hx408_0|clear hx419_0|clear hx419_1|clear hx419_2|clear hx419_3|clear p408|clear p419|clear q408|clear q419)
   obtain ⟨kq, HA, HJ26, BK374, BK375, BK376, BK377, BK378, BK379, HB⟩ := hcut
   go_step
   exact laws_FnRowsHiddenOfAll.r2 k a0 a1 a2 a3_0 A3_1 c3_1 l3_1 a4_0 A4_1 c4_1 l4_1 a5_0 a5_1 a5_2 a5_3 a6_0 A6_1 c6_1 l6_1 a7 a8_0 a8_1 a8_2 a8_3 a9 a10 a11_0 a11_1 a11_2 a11_3 r w HR3_1 HC3_1 HR4_1 HC4_1 HR6_1 HC6_1 HRT HMM gb374 gb375 NB374_375 gb376 NB374_376 NB375_376 gb377 NB374_377 NB375_377 NB376_377 gb378 NB374_378 NB375_378 NB376_378 NB377_378 gb379 NB374_379 NB375_379 NB376_379 NB377_379 NB378_379 u81 u82 u85 u86 kj12 HJ12 t380 t381 t384 t386 t387 t390 gb385 Ao37 co37 gb391 Ao48 co48 wc u24 u29 u30 u31 u32 u33 u34 u35 u36 u37 u38 u39 u40 u41 u42 u43 u44 u45 u46 u47 u48 u50 u51 u52 u83 u84 u87 u88 u95 u99 u100 u101 u102 u103 u104 u105 u106 u107 u108 u109 u110 u111 u112 u113 u114 u115 u116 u117 u118 u119 u120 u121 u122 u123 u124 u125 u126 u127 u128 u129 u130 u131 u132 u133 u134 u135 u136 u137 u138 u139 u140 u141 u142 u143 u144 u145 u146 u147 u148 u149 u150 u151 u152 u153 u154 u155 u156 u157 u158 u159 u160 u161 u162 u163 u164 u165 u166 u167 u168 u169 u170 u171 u172 u173 u174 u175 u176 u177 u178 u179 u180 u181 u182 u183 u184 u185 u186 u187 u188 u189 u190 u191 u192 u193 u194 u195 u196 u197 u198 u199 u200 u201 u202 u203 u204 u205 u206 u207 u208 u209 u210 u211 u212 u213 u214 u215 u216 u217 u218 u219 u220 u221 u222 u223 u224 u225 u226 u227 u228 u229 u230 u231 u232 u233 u234 u235 u236 u237 u238 u239 u240 u241 u242 u243 u244 u245 u246 u247 u248 u249 u250 u251 u252 u253 u254 u255 kq HA HJ26 BK374 BK375 BK376 BK377 BK378 BK379 HB

set_option maxHeartbeats 80000000 in
set_option maxRecDepth 100000 in
theorem laws_FnRowsHiddenOfAll.calls (k : Nat) (a0 : ByteArray) (a1 : Int) (a2 : Int) (a3_0 : Int) (A3_1 : Option Addr) (c3_1 : Nat) (l3_1 : List (S26)) (a4_0 : Int) (A4_1 : Option Addr) (c4_1 : Nat) (l4_1 : List (S26)) (a5_0 : Int) (a5_1 : Int) (a5_2 : Int) (a5_3 : Int) (a6_0 : Int) (A6_1 : Option Addr) (c6_1 : Nat) (l6_1 : List (S26)) (a7 : Int) (a8_0 : Int) (a8_1 : Int) (a8_2 : Int) (a8_3 : Int) (a9 : ByteArray) (a10 : Int) (a11_0 : Int) (a11_1 : Int) (a11_2 : Int) (a11_3 : Int) (r : Bool) (w : World) (hm : Dr.Tab w) (hr3_1 : Kd.C k26 w A3_1 l3_1.length l3_1) (hc3_1 : l3_1.length ≤ c3_1) (hr4_1 : Kd.C k26 w A4_1 l4_1.length l4_1) (hc4_1 : l4_1.length ≤ c4_1) (hr6_1 : Kd.C k26 w A6_1 l6_1.length l6_1) (hc6_1 : l6_1.length ≤ c6_1) (hrt : r = true) (h : laws_FnRowsHiddenOfAll.f k a0 a1 a2 a3_0 l3_1 a4_0 l4_1 a5_0 a5_1 a5_2 a5_3 a6_0 l6_1 a7 a8_0 a8_1 a8_2 a8_3 a9 a10 a11_0 a11_1 a11_2 a11_3 = some r) :
  Calls Tryz.prog 3 #[.string a0, .int .i64 a1, .int .i64 a2, .agg #[.int .i64 a3_0, .slice A3_1 l3_1.length c3_1], .agg #[.int .i64 a4_0, .slice A4_1 l4_1.length c4_1], .agg #[.int .i64 a5_0, .int .i64 a5_1, .int .i64 a5_2, .int .i64 a5_3], .agg #[.int .i64 a6_0, .slice A6_1 l6_1.length c6_1], .int .i64 a7, .agg #[.int .i64 a8_0, .int .i64 a8_1, .int .i64 a8_2, .int .i64 a8_3], .string a9, .int .i64 a10, .agg #[.int .i64 a11_0, .int .i64 a11_1, .int .i64 a11_2, .int .i64 a11_3]] w fun e w' => e = .returned (.bool r) ∧ Below w.heap.size w w' := by
 have hu24 := Tryz.underlying24
 have hu26 := Tryz.underlying26
 have HR3_1 := Aside0.mk hr3_1
 have HC3_1 := Aside0.mk hc3_1
 clear hr3_1 hc3_1
 have HR4_1 := Aside0.mk hr4_1
 have HC4_1 := Aside0.mk hc4_1
 clear hr4_1 hc4_1
 have HR6_1 := Aside0.mk hr6_1
 have HC6_1 := Aside0.mk hc6_1
 clear hr6_1 hc6_1
 have HB := Aside0.mk (Below.refl w.heap.size w)
 have HRT := Aside0.mk hrt
 clear hrt
 have HMM := Aside0.mk hm
 clear hm
 unfold laws_FnRowsHiddenOfAll.f at h
 have H := h
 clear h
 have HC13 := Aside0.mk H
 clear H
 go_enter Tryz.func3, Tryz.ntmps3
 go_upto_region 1 with (first | ((with_reducible refine gd 15 ?_); (try (refine gate_guard (by rfl) ?_; dsimp only)); refine bx 15 24 #[.int .i64 a3_0, .slice A3_1 l3_1.length c3_1] ?_; intro gb374 hg w14 hbox hb; have BK374 := hbox; have GW374 := gs hg; have GE374 := gs hg; replace HB := bs hb; clear hb hbox hg) | ((with_reducible refine gd 16 ?_); (try (refine gate_guard (by rfl) ?_; dsimp only)); refine bx 16 24 #[.int .i64 a4_0, .slice A4_1 l4_1.length c4_1] ?_; intro gb375 hg w15 hbox hb; have BK375 := hbox; have GW375 := gs hg; have GE375 := gs hg; replace HB := bs hb; have ⟨NB374_375, NB375_374⟩ := nn BK374 hg; replace BK374 := nk BK374 hb; clear hb hbox hg) | ((with_reducible refine gd 17 ?_); (try (refine gate_guard (by rfl) ?_; dsimp only)); refine bx 17 26 #[.int .i64 a5_0, .int .i64 a5_1, .int .i64 a5_2, .int .i64 a5_3] ?_; intro gb376 hg w16 hbox hb; have BK376 := hbox; have GW376 := gs hg; have GE376 := gs hg; replace HB := bs hb; have ⟨NB374_376, NB376_374⟩ := nn BK374 hg; replace BK374 := nk BK374 hb; have ⟨NB375_376, NB376_375⟩ := nn BK375 hg; replace BK375 := nk BK375 hb; clear hb hbox hg) | ((with_reducible refine gd 18 ?_); (try (refine gate_guard (by rfl) ?_; dsimp only)); refine bx 18 24 #[.int .i64 a6_0, .slice A6_1 l6_1.length c6_1] ?_; intro gb377 hg w17 hbox hb; have BK377 := hbox; have GW377 := gs hg; have GE377 := gs hg; replace HB := bs hb; have ⟨NB374_377, NB377_374⟩ := nn BK374 hg; replace BK374 := nk BK374 hb; have ⟨NB375_377, NB377_375⟩ := nn BK375 hg; replace BK375 := nk BK375 hb; have ⟨NB376_377, NB377_376⟩ := nn BK376 hg; replace BK376 := nk BK376 hb; clear hb hbox hg) | ((with_reducible refine gd 20 ?_); (try (refine gate_guard (by rfl) ?_; dsimp only)); refine bx 20 26 #[.int .i64 a8_0, .int .i64 a8_1, .int .i64 a8_2, .int .i64 a8_3] ?_; intro gb378 hg w18 hbox hb; have BK378 := hbox; have GW378 := gs hg; have GE378 := gs hg; replace HB := bs hb; have ⟨NB374_378, NB378_374⟩ := nn BK374 hg; replace BK374 := nk BK374 hb; have ⟨NB375_378, NB378_375⟩ := nn BK375 hg; replace BK375 := nk BK375 hb; have ⟨NB376_378, NB378_376⟩ := nn BK376 hg; replace BK376 := nk BK376 hb; have ⟨NB377_378, NB378_377⟩ := nn BK377 hg; replace BK377 := nk BK377 hb; clear hb hbox hg) | ((with_reducible refine gd 23 ?_); (try (refine gate_guard (by rfl) ?_; dsimp only)); refine bx 23 26 #[.int .i64 a11_0, .int .i64 a11_1, .int .i64 a11_2, .int .i64 a11_3] ?_; intro gb379 hg w19 hbox hb; have BK379 := hbox; have GW379 := gs hg; have GE379 := gs hg; replace HB := bs hb; have ⟨NB374_379, NB379_374⟩ := nn BK374 hg; replace BK374 := nk BK374 hb; have ⟨NB375_379, NB379_375⟩ := nn BK375 hg; replace BK375 := nk BK375 hb; have ⟨NB376_379, NB379_376⟩ := nn BK376 hg; replace BK376 := nk BK376 hb; have ⟨NB377_379, NB379_377⟩ := nn BK377 hg; replace BK377 := nk BK377 hb; have ⟨NB378_379, NB379_378⟩ := nn BK378 hg; replace BK378 := nk BK378 hb; clear hb hbox hg))
 (try simp only [Act.put, List.setIfInBounds_toArray, List.set_cons_zero, List.set_cons_succ])
 go_cut [88] from 9999 (fun v88 wc => ∃ (kq : Nat) (x88_12 : Bool), v88 = .bool x88_12 ∧ Aside0 (laws_FnRowsHiddenOfAll.j0 kq a0 a1 a2 a7 a9 a10 x88_12 a3_0 l3_1 a4_0 l4_1 a5_0 a5_1 a5_2 a5_3 a6_0 l6_1 a8_0 a8_1 a8_2 a8_3 a11_0 a11_1 a11_2 a11_3 = some r) ∧ Aside0 (kq ≤ k) ∧ Aside0 (wc.heap[gb374]? = some (.cells #[.int .i64 a3_0, (.slice A3_1 l3_1.length c3_1)] 24 (0, 0))) ∧ Aside0 (wc.heap[gb375]? = some (.cells #[.int .i64 a4_0, (.slice A4_1 l4_1.length c4_1)] 24 (0, 0))) ∧ Aside0 (wc.heap[gb376]? = some (.cells #[.int .i64 a5_0, .int .i64 a5_1, .int .i64 a5_2, .int .i64 a5_3] 26 (0, 0))) ∧ Aside0 (wc.heap[gb377]? = some (.cells #[.int .i64 a6_0, (.slice A6_1 l6_1.length c6_1)] 24 (0, 0))) ∧ Aside0 (wc.heap[gb378]? = some (.cells #[.int .i64 a8_0, .int .i64 a8_1, .int .i64 a8_2, .int .i64 a8_3] 26 (0, 0))) ∧ Aside0 (wc.heap[gb379]? = some (.cells #[.int .i64 a11_0, .int .i64 a11_1, .int .i64 a11_2, .int .i64 a11_3] 26 (0, 0))) ∧ Aside0 (Below w.heap.size w wc))
 case first =>
  rename_i J1_ K1_ hJ1_ hM1_
  have H := HC13.out
  clear HC13
  by_cases c20 : (a0.size : Int) > 1048576
  ·rw [if_pos c20] at H
   have c20b0 := decide_eq_true c20
   have c20b1 : decide (1048576 < a0.size) = true := decide_eq_true (by omega)
   clear c20
   (first | rw [c20b0] | rw [@decide_eq_true _ _ (of_decide_eq_true c20b1)] | rw [@decide_eq_false _ _ (of_decide_eq_false c20b1)] | (simp only [i64_w, i32_w]; rw [c20b0]) | skip)
   have H' := Aside0.mk H
   clear H
   go_wp2
   go_meet
   case rel => exact ⟨_, (true), (rs), H', ⟨by first | omega | exact Nat.le_refl _⟩, ⟨pk BK374⟩, ⟨pk BK375⟩, ⟨pk BK376⟩, ⟨pk BK377⟩, ⟨pk BK378⟩, ⟨pk BK379⟩, ⟨bw⟩⟩
  rw [if_neg c20] at H
  have c20b0 := decide_eq_false c20
  have c20b1 : decide (1048576 < a0.size) = false := decide_eq_false (by omega)
  clear c20
  (first | rw [c20b0] | rw [@decide_eq_true _ _ (of_decide_eq_true c20b1)] | rw [@decide_eq_false _ _ (of_decide_eq_false c20b1)] | (simp only [i64_w, i32_w]; rw [c20b0]) | skip)
  have H' := Aside0.mk H
  clear H
  go_wp2
  go_meet
  case rel => exact ⟨_, (decide ((a9.size : Int) > 1048576)), (rs), H', ⟨by first | omega | exact Nat.le_refl _⟩, ⟨pk BK374⟩, ⟨pk BK375⟩, ⟨pk BK376⟩, ⟨pk BK377⟩, ⟨pk BK378⟩, ⟨pk BK379⟩, ⟨bw⟩⟩
 case rest =>
  clear HC13
  repeat (first|clear c2|clear p2|clear c3|clear c4|clear c6|clear c20|clear c20b0|clear c20b1)
  obtain ⟨kq, x88_12, rfl, HA, HJ12, BK374, BK375, BK376, BK377, BK378, BK379, HB⟩ := hcut
  go_step
  exact laws_FnRowsHiddenOfAll.r1 k a0 a1 a2 a3_0 A3_1 c3_1 l3_1 a4_0 A4_1 c4_1 l4_1 a5_0 a5_1 a5_2 a5_3 a6_0 A6_1 c6_1 l6_1 a7 a8_0 a8_1 a8_2 a8_3 a9 a10 a11_0 a11_1 a11_2 a11_3 r w HR3_1 HC3_1 HR4_1 HC4_1 HR6_1 HC6_1 HRT HMM gb374 gb375 NB374_375 gb376 NB374_376 NB375_376 gb377 NB374_377 NB375_377 NB376_377 gb378 NB374_378 NB375_378 NB376_378 NB377_378 gb379 NB374_379 NB375_379 NB376_379 NB377_379 NB378_379 _ (by assumption) wc u81 u82 u83 u84 u85 u86 u87 kq x88_12 HA HJ12 BK374 BK375 BK376 BK377 BK378 BK379 HB
end Go.Proofs.YtonhhfhlhlifcaaGreatDoor.PFnRowsHiddenOfAll
