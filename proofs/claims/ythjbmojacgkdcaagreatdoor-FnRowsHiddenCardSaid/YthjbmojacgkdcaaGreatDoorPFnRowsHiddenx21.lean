-- Laid by xprint, a program of this session that runs over the kit's print.
import Derived.Test.YthjbmojacgkdcaaGreatDoorPFnRowsHiddenx19
namespace Go.Proofs.YthjbmojacgkdcaaGreatDoor.PFnRowsHidden
open Go.RowKit Go.Proofs.YthjbmojacgkdcaaGreatDoorW.PrintWords Go.Proofs.YthjbmojacgkdcaaGreatDoorW.PrintLast Go.Proofs.YthjbmojacgkdcaaGreatDoorW.PrintMore Go.Proofs.YthjbmojacgkdcaaGreatDoor.Sq
attribute [local go_sem] max2_int min2_int max_two min_two max_three min_three max_four min_four   -- for this text's walks alone
set_option linter.unusedVariables false
set_option linter.unusedSimpArgs false

attribute [local go_sem high] eqA37
-- the words again, with a search that unfolds nothing first
section
variable {w W W0 W1 W2 : World} {g q : Nat} {o : Obj}
theorem bw (h : Below w.heap.size w W := by repeat (first | (with_reducible first | exact HB.out | apply below_alloc | apply pw_below_drewN | apply below_drew1 | refine below_set ?_ (Aside0.out (by first | (with_reducible assumption) | assumption))) | exact HB.out)) : Below w.heap.size w W := h
theorem bs (hb : Below W.heap.size W W2) (h : Below w.heap.size w W := by repeat (first | (with_reducible first | exact HB.out | apply below_alloc | apply pw_below_drewN | apply below_drew1 | refine below_set ?_ (Aside0.out (by first | (with_reducible assumption) | assumption))) | exact HB.out)) : Aside0 (Below w.heap.size w W2) := ⟨below_step h hb⟩
theorem gs (hg : g = W.heap.size) (h : Below w.heap.size w W := by repeat (first | (with_reducible first | exact HB.out | apply below_alloc | apply pw_below_drewN | apply below_drew1 | refine below_set ?_ (Aside0.out (by first | (with_reducible assumption) | assumption))) | exact HB.out)) : Aside0 (w.heap.size ≤ g) := ⟨by rw [hg]; exact below_size h⟩
theorem pk (_h : Aside0 (W0.heap[g]? = some o)) (h : W.heap[g]? = some o := by (with_reducible repeat (first | refine blk_drewN ?_ _ | refine blk_drew ?_ | refine blk_alloc ?_ _)); exact Aside0.out (by first | (with_reducible assumption) | assumption)) : W.heap[g]? = some o := h
theorem nk (_h : Aside0 (W0.heap[g]? = some o)) (hb : Below W1.heap.size W1 W2) (h : W1.heap[g]? = some o := by (with_reducible repeat (first | refine blk_drewN ?_ _ | refine blk_drew ?_ | refine blk_alloc ?_ _)); exact Aside0.out (by first | (with_reducible assumption) | assumption)) : Aside0 (W2.heap[g]? = some o) := ⟨blk_below h hb⟩
theorem pr {α : Type} {d : Kd α} {e base : Nat} {ok : Nat → Prop} {v : Value} {xs : List α} (_h : Aside0 (Kd.R d e W0 base ok v xs)) (h : Kd.R d e W base ok v xs := by (with_reducible repeat (first | apply Kd.R_alloc | apply Kd.R_drewN | apply Kd.R_drew)); exact Aside0.out (by first | (with_reducible assumption) | assumption)) : Kd.R d e W base ok v xs := h
theorem pf (_h : Aside0 (W0.heap[g]? = some o)) (h : W.heap[g]? = some o := by (with_reducible repeat (first | refine blk_drewN ?_ _ | refine blk_drew ?_ | refine blk_alloc ?_ _)); (repeat (refine blk_far ?_ (Aside0.out (by first | (with_reducible assumption) | assumption)) _; (with_reducible repeat (first | refine blk_drewN ?_ _ | refine blk_drew ?_ | refine blk_alloc ?_ _)))); exact Aside0.out (by first | (with_reducible assumption) | assumption)) : W.heap[g]? = some o := h
theorem nf (_h : Aside0 (W0.heap[g]? = some o)) (hb : Below W1.heap.size W1 W2) (h : W1.heap[g]? = some o := by (with_reducible repeat (first | refine blk_drewN ?_ _ | refine blk_drew ?_ | refine blk_alloc ?_ _)); (repeat (refine blk_far ?_ (Aside0.out (by first | (with_reducible assumption) | assumption)) _; (with_reducible repeat (first | refine blk_drewN ?_ _ | refine blk_drew ?_ | refine blk_alloc ?_ _)))); exact Aside0.out (by first | (with_reducible assumption) | assumption)) : Aside0 (W2.heap[g]? = some o) := ⟨blk_below h hb⟩
end
section
variable {w W W0 W1 W2 : World} {g q : Nat} {o : Obj}
variable {α : Type} {d : Kd α} {e base t i j k l : Nat} {ok : Nat → Prop} {v u1 u2 u3 u4 : Value} {xs : List α} {cs : Array Value}
theorem qf (_h : Aside0 (Kd.R d e W0 base ok v xs)) (h : Kd.R d e W base ok v xs := by (with_reducible repeat (first | apply Kd.R_alloc | apply Kd.R_drewN | apply Kd.R_drew)); first | exact rf2_ (by first | (with_reducible assumption) | assumption) (by first | (with_reducible assumption) | assumption) (by decide) | exact rf4_ (by first | (with_reducible assumption) | assumption) (by first | (with_reducible assumption) | assumption) (by decide) | exact rf1_ (by first | (with_reducible assumption) | assumption) (by first | (with_reducible assumption) | assumption) (by decide)) : Kd.R d e W base ok v xs := h
end
section
variable {w W W0 W1 W2 : World} {g q : Nat} {o : Obj}
theorem cb {α : Type} {K : Kd α} {A : Option Addr} {n : Nat} {l : List α} (_h : Aside0 (Kd.C K w A n l)) (h : Kd.C K W A n l := by repeat (first | exact (Kd.C_below (Aside0.out (by first | (with_reducible assumption) | assumption)) (Aside0.out (by first | (with_reducible assumption) | assumption))) | (with_reducible refine Kd.C_alloc ?_ _) | (with_reducible refine Kd.C_drewN ?_ _) | (with_reducible refine Kd.C_drew ?_))) : Kd.C K W A n l := h
end
section
variable {P : Program} {md : Region.Mode} {ops : Array Oper} {Q : Exit → Act → World → Prop} {S : World → Prop} {ds : List Nat}
theorem pu {T : Bool × List (List Nat × List Nat)} (i : Nat) (N : Option Tmp) {oi : Oper} {v : Value} {fuel : Nat} {l : Array Bool} {a : Act} {w : World} (l' : Array Bool) {a' : Act} (h : wpAnyLast P md ops Q S ds fuel l' a' w) (hT : Aside0 (rtab md ops = T) := by first | (with_reducible assumption) | assumption) (hi : ops[i]? = some oi := by rfl) (hN : oi.dst = N := by rfl)
    (hc : anyT T l.toList l'.toList i = true := by kernel_rfl) (hQ : ∀ c a w, Q (.panic c) (a.put oi.dst v) w → Q (.panic c) a w := by exact fun _ _ _ h => h) (hq : Region.wanted oi (yielded ops a.tmps) = true ∧ ∀ w' : World, (execOp a.eval oi).run P w' = .ok (.value v) w' := by exact ⟨by rfl, by intro w'; go_simp; with_reducible rfl⟩)
    (ha : a.put N v = a' := by simp only [Act.put, List.setIfInBounds_toArray, List.set_cons_zero, List.set_cons_succ, i64_w, i32_w]; rfl) : wpAnyLast P md ops Q S ds (fuel + 1) l a w := by
  exact pure_ l' hi hN (any_of hT.out hc) hQ (Or.inl hq) ha h
end
section
variable {α β : Type} {w W W0 W1 W2 : World} {d : Kd α} {f : Kd β} {e e2 base base2 g n c t i j k : Nat} {ok ok2 : Nat → Prop} {v u u1 u2 u3 : Value} {xs : List α} {ys : List β} {A : Option Addr} {row : Option Nat} {cs : Array Value}
theorem rl (_h : Aside0 (Kd.R d e W0 base ok v xs)) (hb : Below W1.heap.size W1 W2) (h : Kd.R d e W1 base ok v xs := by (with_reducible repeat (first | apply Kd.R_alloc | apply Kd.R_drewN | apply Kd.R_drew)); exact Aside0.out (by first | (with_reducible assumption) | assumption)) : Aside0 (Kd.R d e W2 base ok v xs) := ⟨Kd.R_below h hb⟩
theorem re (_h : Aside0 (Kd.R d e W0 base ok v xs)) (ho : Kd.R f e2 W2 W1.heap.size ok2 u ys) (hb : Below W1.heap.size W1 W2) (h : Kd.R d e W1 base ok v xs := by (with_reducible repeat (first | apply Kd.R_alloc | apply Kd.R_drewN | apply Kd.R_drew)); exact Aside0.out (by first | (with_reducible assumption) | assumption)) : Aside0 (Kd.R d e W2 base (fun k => ok k ∧ some k ≠ u.ownBlock) v xs) := ⟨Kd.R_elder' h (Kd.R_base ho) hb⟩
theorem rr (_h : Aside0 (Kd.R d e W0 base ok (.slice A n c) xs)) (h : Kd.C d W A xs.length xs := by repeat (first | exact (Kd.R_reads' (Aside0.out (by first | (with_reducible assumption) | assumption))).2.2 | (with_reducible refine Kd.C_alloc ?_ _) | (with_reducible refine Kd.C_drewN ?_ _) | (with_reducible refine Kd.C_drew ?_))) : Kd.C d W A xs.length xs := h
theorem cr (_h : Aside0 (Kd.C d W0 A n xs)) (h : Kd.C d W A n xs := by repeat (first | exact Aside0.out (by first | (with_reducible assumption) | assumption) | (with_reducible refine Kd.C_alloc ?_ _) | (with_reducible refine Kd.C_drewN ?_ _) | (with_reducible refine Kd.C_drew ?_))) : Kd.C d W A n xs := h
end
section
variable {w W W0 W1 W2 : World} {g q t i : Nat} {o o0 : Obj} {cs cs' : Array Value} {u a b c d : Value} {ab : Nat × Nat} {row : Option Nat}
theorem pz (_h : Aside0 (W0.heap[g]? = some o0)) (h : W.heap[g]? = some o := by (with_reducible repeat (first | apply b1 | apply b2 | apply b3 | apply bp | (apply bf; (case hp => first | (with_reducible assumption) | assumption)) | exact Aside0.out (by first | (with_reducible assumption) | assumption))); all_goals rfl) : W.heap[g]? = some o := h
theorem nn (_h : Aside0 (W0.heap[g]? = some o)) (hg : q = W.heap.size) (h : W.heap[g]? = some o := by exact pk (by first | (with_reducible assumption) | assumption)) : Aside0 (g ≠ q) ∧ Aside0 (q ≠ g) := ⟨⟨by rw [hg]; exact Nat.ne_of_lt (blk_lt h)⟩, ⟨by rw [hg]; exact Nat.ne_of_gt (blk_lt h)⟩⟩
end
section
variable {P : Program} {md : Region.Mode} {ops : Array Oper} {Q : Exit → Act → World → Prop} {S : World → Prop} {ds : List Nat}
theorem tk {T : Bool × List (List Nat × List Nat)} {B : List Nat} (i : Nat) (N : Option Tmp) {oi : Oper} {v : Value} {fuel : Nat} {l : Array Bool} {a : Act} {w : World} (l' : Array Bool) {a' : Act} (hS : S w) (h : wpAnyLast P md ops Q S ds fuel l' a' w) (hT : Aside0 (rtab md ops = T) := by first | (with_reducible assumption) | assumption) (hB : Aside0 (waitsOk T.2 B = true) := by first | (with_reducible assumption) | assumption) (hi : ops[i]? = some oi := by rfl) (hN : oi.dst = N := by rfl)
    (hc : takeW T B ds l.toList l'.toList i = true := by kernel_rfl) (hQ : ∀ c a w, Q (.panic c) (a.put oi.dst v) w → Q (.panic c) a w := by exact fun _ _ _ h => h) (hq : Region.wanted oi (yielded ops a.tmps) = true ∧ ∀ w' : World, S w' → (execOp a.eval oi).run P w' = .ok (.value v) w' := by exact ⟨by rfl, by intro w' hs_; (try dsimp only at hs_); go_simp; with_reducible rfl⟩)
    (ha : a.put N v = a' := by simp only [Act.put, List.setIfInBounds_toArray, List.set_cons_zero, List.set_cons_succ, i64_w, i32_w]; rfl) : wpAnyLast P md ops Q S ds (fuel + 1) l a w :=
  take_ l' hi hN (take_ofW hT.out hB.out hc) hQ (Or.inl hq) hS ha h
end
/-! ### laws_FnRowsHidden: its contract -/
def cd : List Nat → Code → Code
  | [], c => c
  | 0 :: p, .seq a _ => cd p a
  | 1 :: p, .seq _ b => cd p b
  | 0 :: p, .cond _ a _ => cd p a
  | 1 :: p, .cond _ _ b => cd p b
  | 0 :: p, .block _ a => cd p a
  | 0 :: p, .loop a => cd p a
  | 0 :: p, .scope a => cd p a
  | _, c => c
/-- The code at a place of a function's body. -/
def cdd (f : Func) (p : List Nat) : Code := cd p (f.body.getD .skip)

set_option maxHeartbeats 80000000 in
set_option maxRecDepth 100000 in
theorem laws_FnRowsHidden.r4
 {k : Nat}
 {A0 : Option Addr}
 {c0 : Nat}
 {l0 : List Int}
 {A1 : Option Addr}
 {c1 : Nat}
 {l1 : List Int}
 {r : Bool}
 {w : World}
 (HRT : Aside0 (r = true))
 {t660 : ByteArray}
 {t661 t662 t663 : Int}
 {t664 : List S37}
 {t667 : Bool}
 {t669 : Int}
 {t670 : List S37}
 {t673 : Bool}
 {gb668 : Nat}
 {Ao16 : Option Addr}
 {co16 gb674 : Nat}
 {Ao21 : Option Addr}
 {co21 : Nat}
 {u12 u13 u14 u15 u16 u17 u18 u19 u20 u21 u22 u23 u24 u25 u26 u27 u28 u29 u30 u31 u33 u34 u35 u75 u88 u92 u93 u94 u95 u96 u97 u98 u99 u100 u101 u102 u103 u104 u105 u106 u107 u108 u109 u110 u111 u112 u113 u114 u115 u116 u117 u118 u119 u120 u121 u122 u123 u124 u125 u126 u127 u128 u129 u130 u131 u132 u133 u134 u135 u136 u137 u138 u139 u140 u141 u142 u143 u144 u145 u146 u147 u148 u149 u150 u151 u152 u153 u154 u155 u156 u157 u158 u159 u160 u161 u162 u163 u164 u165 u166 u167 u168 u169 u170 u171 u172 u173 u174 u175 u176 u177 u178 u179 u180 u181 u182 u183 u184 u185 u186 u187 u188 u189 u190 u191 u192 u193 u194 u195 u196 u197 u198 u199 u200 u201 u202 u203 u204 u205 u206 u207 u208 u209 u210 u212 u213 u214 u215 u216 u229 u230 u231 u232 u233 u234 u235 u236 u237 u238 u239 u248 : Value}
 {kj10 : Nat}
 (HJ10 : Aside0 (kj10 + 1 ≤ k))
 {t706 : Int}
 {t707 : List S37}
 {t711 : Int}
 {t712 : List S37}
 {t715 t721 t723 t724 : Bool}
 {gb710 : Nat}
 {Ao104 : Option Addr}
 {co104 gb716 : Nat}
 {Ao109 : Option Addr}
 {co109 gb722 : Nat}
 {u211 u217 u218 u219 u220 u221 u222 u223 u252 u253 u254 u256 u257 u258 u259 u261 u262 u263 : Value}
 {kj99 : Nat}
 (HJ99 : Aside0 (kj99 + 1 ≤ kj10))
 {u4 u43 u44 u45 u46 u47 u48 u224 u225 u226 u227 u228 u240 u241 u242 u243 u244 u245 u246 u247 u255 u260 u264 u265 u266 u267 u268 u269 u270 u271 u272 u273 u274 u275 u276 u277 u278 u279 u280 u281 u282 u283 u284 u285 u286 u287 u288 u289 u290 u291 u292 u293 u294 u295 u296 u297 u298 u299 u300 u301 u302 u303 u304 u305 u306 u307 u308 u309 u310 u311 u312 u313 u314 u315 u316 u317 u318 u319 u320 u321 u322 u323 u324 u325 u326 : Value}
 {kj135 : Nat}
 (HJ135 : Aside0 (kj135 + 1 ≤ kj99))
 {t739 : Int}
 {t740 : List S37}
 {t743 t744 t745 t746 t749 : Int}
 {t750 : List S37}
 {t753 : Bool}
 (A161 : Aside0 (impl_AddClue.f kj135 t739 t740 t743 t744 t745 t746 = some (t749, t750, t753)))
 {t755 : Int}
 {t756 : List S37}
 {t759 : Bool}
 {t761 : Int}
 {t762 : List S37}
 {t765 t767 : Int}
 {t768 : List S37}
 {t771 : Bool}
 (A164 : Aside0 (impl_DropClue.f kj135 t761 t762 t765 = some (t767, t768, t771)))
 {t773 : Int}
 {t774 : List S37}
 {t777 : Bool}
 {t779 t780 t781 t782 : Int}
 {t783 : ByteArray}
 {t785 t786 t787 t788 : Bool}
 {t789 : Int}
 {gb747 gb748 : Nat}
 (NB747_748 : Aside0 (gb747 ≠ gb748))
 {Ao176 : Option Addr}
 {co176 gb754 : Nat}
 (NB754_747 : Aside0 (gb754 ≠ gb747))
 (NB754_748 : Aside0 (gb754 ≠ gb748))
 {Ao183 : Option Addr}
 {co183 gb760 : Nat}
 {Ao192 : Option Addr}
 {co192 gb766 : Nat}
 (NB747_766 : Aside0 (gb747 ≠ gb766))
 (NB754_766 : Aside0 (gb754 ≠ gb766))
 {Ao200 : Option Addr}
 {co200 gb772 : Nat}
 {w202 : World}
 (NB747_772 : Aside0 (gb747 ≠ gb772))
 (NB754_772 : Aside0 (gb754 ≠ gb772))
 (NB766_772 : Aside0 (gb766 ≠ gb772))
 {Ao209 : Option Addr}
 {co209 : Nat}
 (hz210 : World.cell? w202 { block := gb766, off := 0 } = some (Value.int IntKind.i64 t761) ∧ World.cell? w202 { block := gb766, off := 1 } = some (Value.slice Ao200 (List.length t762) co200) ∧ World.frozen? w202 { block := gb766, off := 0 } = false ∧ World.frozen? w202 { block := gb766, off := 1 } = false)
 {gb778 : Nat}
 {Ao220 : Option Addr}
 {co220 gb784 gb794 : Nat}
 {w235 : World}
 (HO742 : Aside0 (Kd.R k37 37 w235 (Array.size w.heap) (fun k => (((((((True ∧ k ≠ gb748) ∧ some k ≠ Value.ownBlock (Value.slice Ao183 (List.length t750) co183)) ∧ some k ≠ Value.ownBlock (Value.slice Ao192 (List.length t756) co192)) ∧ some k ≠ Value.ownBlock (Value.slice Ao200 (List.length t762) co200)) ∧ some k ≠ Value.ownBlock (Value.slice Ao209 (List.length t768) co209)) ∧ some k ≠ Value.ownBlock (Value.slice Ao220 (List.length t774) co220)) ∧ k ≠ gb784) ∧ k ≠ gb794) (Value.slice Ao176 (List.length t740) co176) t740))
 (HO752 : Aside0 (Kd.R k37 37 w235 (Array.size w.heap) (fun k => (((((((True ∧ some k ≠ Value.ownBlock (Value.slice Ao176 (List.length t740) co176)) ∧ k ≠ gb748) ∧ some k ≠ Value.ownBlock (Value.slice Ao192 (List.length t756) co192)) ∧ some k ≠ Value.ownBlock (Value.slice Ao200 (List.length t762) co200)) ∧ some k ≠ Value.ownBlock (Value.slice Ao209 (List.length t768) co209)) ∧ some k ≠ Value.ownBlock (Value.slice Ao220 (List.length t774) co220)) ∧ k ≠ gb784) ∧ k ≠ gb794) (Value.slice Ao183 (List.length t750) co183) t750))
 (HO758 : Aside0 (Kd.R k37 37 w235 (Array.size w.heap) (fun k => (((((((True ∧ some k ≠ Value.ownBlock (Value.slice Ao176 (List.length t740) co176)) ∧ some k ≠ Value.ownBlock (Value.slice Ao183 (List.length t750) co183)) ∧ k ≠ gb748) ∧ some k ≠ Value.ownBlock (Value.slice Ao200 (List.length t762) co200)) ∧ some k ≠ Value.ownBlock (Value.slice Ao209 (List.length t768) co209)) ∧ some k ≠ Value.ownBlock (Value.slice Ao220 (List.length t774) co220)) ∧ k ≠ gb784) ∧ k ≠ gb794) (Value.slice Ao192 (List.length t756) co192) t756))
 (HO764 : Aside0 (Kd.R k37 37 w235 (Array.size w.heap) (fun k => (((((((True ∧ some k ≠ Value.ownBlock (Value.slice Ao176 (List.length t740) co176)) ∧ some k ≠ Value.ownBlock (Value.slice Ao183 (List.length t750) co183)) ∧ some k ≠ Value.ownBlock (Value.slice Ao192 (List.length t756) co192)) ∧ k ≠ gb748) ∧ some k ≠ Value.ownBlock (Value.slice Ao209 (List.length t768) co209)) ∧ some k ≠ Value.ownBlock (Value.slice Ao220 (List.length t774) co220)) ∧ k ≠ gb784) ∧ k ≠ gb794) (Value.slice Ao200 (List.length t762) co200) t762))
 (HO770 : Aside0 (Kd.R k37 37 w235 (Array.size w.heap) (fun k => (((((((True ∧ some k ≠ Value.ownBlock (Value.slice Ao176 (List.length t740) co176)) ∧ some k ≠ Value.ownBlock (Value.slice Ao183 (List.length t750) co183)) ∧ some k ≠ Value.ownBlock (Value.slice Ao192 (List.length t756) co192)) ∧ some k ≠ Value.ownBlock (Value.slice Ao200 (List.length t762) co200)) ∧ k ≠ gb748) ∧ some k ≠ Value.ownBlock (Value.slice Ao220 (List.length t774) co220)) ∧ k ≠ gb784) ∧ k ≠ gb794) (Value.slice Ao209 (List.length t768) co209) t768))
 (HO776 : Aside0 (Kd.R k37 37 w235 (Array.size w.heap) (fun k => (((((((True ∧ some k ≠ Value.ownBlock (Value.slice Ao176 (List.length t740) co176)) ∧ some k ≠ Value.ownBlock (Value.slice Ao183 (List.length t750) co183)) ∧ some k ≠ Value.ownBlock (Value.slice Ao192 (List.length t756) co192)) ∧ some k ≠ Value.ownBlock (Value.slice Ao200 (List.length t762) co200)) ∧ some k ≠ Value.ownBlock (Value.slice Ao209 (List.length t768) co209)) ∧ k ≠ gb748) ∧ k ≠ gb784) ∧ k ≠ gb794) (Value.slice Ao220 (List.length t774) co220) t774))
 {x2_ : Act → World → Prop}
 (x3_ : ∀ (a : Act) (w_1 : World), Code.wp Tryz.prog (cdd Tryz.f3 [1, 1, 1, 1, 1, 1, 1, 1, 1, 1, 1, 1, 1, 1, 1, 1, 1, 1, 1, 1, 1, 1, 1, 1]) (bodyPost Tryz.prog Tryz.f3 fun e w' => e = Ending.returned (Value.bool r) ∧ Below (Array.size w.heap) w w') a w_1 → x2_ a w_1)
 {wc : World}
 {u327 u328 u339 u345 u356 u362 u371 u372 u373 u374 u375 u376 u377 u378 u379 u380 u381 u382 u383 u384 u385 u386 u387 u388 u389 u390 u391 u392 u393 u394 u395 u396 u397 u398 u399 u400 u401 u402 u403 u404 u405 u406 u407 u408 u409 u410 u411 u412 u413 u414 u415 u416 u417 u418 u419 u420 u421 u422 u423 u424 u425 u426 u427 u428 u429 u430 u431 u432 : Value}
 {kq : Nat}
 {x433_169 : Bool}
 (HA : Aside0 (j6 kq t753 t765 t771 x433_169 t739 t740 t743 t744 t745 t746 t749 t750 t761 t762 t767 t768 = some r))
 (HJ169 : Aside0 (kq ≤ kj135))
 (HO_748001 : Aside0 (Kd.R k37 37 wc (Array.size w.heap) (fun k_ => some k_ ≠ Value.ownBlock (Value.slice Ao183 (List.length t750) co183) ∧ some k_ ≠ Value.ownBlock (Value.slice Ao200 (List.length t762) co200) ∧ some k_ ≠ Value.ownBlock (Value.slice Ao209 (List.length t768) co209) ∧ k_ ≠ gb748) (Value.slice Ao176 (List.length t740) co176) t740))
 (HO_755001 : Aside0 (Kd.R k37 37 wc (Array.size w.heap) (fun k_ => some k_ ≠ Value.ownBlock (Value.slice Ao176 (List.length t740) co176) ∧ some k_ ≠ Value.ownBlock (Value.slice Ao200 (List.length t762) co200) ∧ some k_ ≠ Value.ownBlock (Value.slice Ao209 (List.length t768) co209) ∧ k_ ≠ gb748) (Value.slice Ao183 (List.length t750) co183) t750))
 (HO_767001 : Aside0 (Kd.R k37 37 wc (Array.size w.heap) (fun k_ => some k_ ≠ Value.ownBlock (Value.slice Ao176 (List.length t740) co176) ∧ some k_ ≠ Value.ownBlock (Value.slice Ao183 (List.length t750) co183) ∧ some k_ ≠ Value.ownBlock (Value.slice Ao209 (List.length t768) co209) ∧ k_ ≠ gb748) (Value.slice Ao200 (List.length t762) co200) t762))
 (HO_773001 : Aside0 (Kd.R k37 37 wc (Array.size w.heap) (fun k_ => some k_ ≠ Value.ownBlock (Value.slice Ao176 (List.length t740) co176) ∧ some k_ ≠ Value.ownBlock (Value.slice Ao183 (List.length t750) co183) ∧ some k_ ≠ Value.ownBlock (Value.slice Ao200 (List.length t762) co200) ∧ k_ ≠ gb748) (Value.slice Ao209 (List.length t768) co209) t768))
 (BK747 : Aside0 (wc.heap[gb747]? = some (Obj.cells #[Value.int IntKind.i64 t739, Value.slice Ao176 (List.length t740) co176] 28)))
 (BK748 : Aside0 (wc.heap[gb748]? = some (Obj.cells #[Value.int IntKind.i64 t743, Value.int IntKind.i64 t744, Value.int IntKind.i64 t745, Value.int IntKind.i64 t746] 37)))
 (BK754 : Aside0 (wc.heap[gb754]? = some (Obj.cells #[Value.int IntKind.i64 t749, Value.slice Ao183 (List.length t750) co183] 28)))
 (BK766 : Aside0 (wc.heap[gb766]? = some (Obj.cells #[Value.int IntKind.i64 t761, Value.slice Ao200 (List.length t762) co200] 28)))
 (BK772 : Aside0 (wc.heap[gb772]? = some (Obj.cells #[Value.int IntKind.i64 t767, Value.slice Ao209 (List.length t768) co209] 28)))
 (HB : Aside0 (Below (Array.size w.heap) w wc)) :
 Code.wp Tryz.prog (cdd Tryz.f3 [1, 1, 1, 1, 1, 1, 1, 1, 1, 1, 1, 1, 1, 1, 1, 1, 1, 1, 1, 1, 1, 1, 1, 0, 1]) (Exit.then x2_ (bodyPost Tryz.prog Tryz.f3 fun e w' => e = Ending.returned (Value.bool r) ∧ Below (Array.size w.heap) w w')) { tmps := #[Value.slice A0 (List.length l0) c0, Value.slice A1 (List.length l1) c1, undef, undef, u4, Value.string t660, Value.int IntKind.i64 t661, Value.int IntKind.i64 t662, Value.pointer (some { block := gb668, off := 0 }), Value.bool t667, Value.pointer (some { block := gb674, off := 0 }), Value.bool t673, u12, u13, u14, u15, u16, u17, u18, u19, u20, u21, u22, u23, u24, u25, u26, u27, u28, u29, u30, u31, undef, u33, u34, u35, Value.pointer (some { block := gb710, off := 0 }), Value.pointer (some { block := gb716, off := 0 }), Value.bool t715, Value.pointer (some { block := gb722, off := 0 }), Value.bool t721, Value.bool t723, Value.bool t724, u43, u44, u45, u46, u47, u48, Value.pointer (some { block := gb747, off := 0 }), Value.pointer (some { block := gb748, off := 0 }), Value.pointer (some { block := gb754, off := 0 }), Value.bool t753, Value.pointer (some { block := gb760, off := 0 }), Value.bool t759, Value.pointer (some { block := gb766, off := 0 }), Value.int IntKind.i64 t765, Value.pointer (some { block := gb772, off := 0 }), Value.bool t771, Value.pointer (some { block := gb778, off := 0 }), Value.bool t777, Value.pointer (some { block := gb784, off := 0 }), Value.string t783, Value.bool t785, Value.bool t786, Value.bool t787, Value.bool t788, Value.int IntKind.i64 t789, Value.pointer (some { block := gb794, off := 0 }), undef, undef, undef, undef, Value.slice A0 (List.length l0) c0, Value.slice A1 (List.length l1) c1, u75, Value.tuple #[Value.string t660, Value.int IntKind.i64 t661, Value.int IntKind.i64 t662], Value.slice A0 (List.length l0) c0, Value.tuple #[Value.string t660, Value.int IntKind.i64 t661, Value.int IntKind.i64 t662], Value.string t660, Value.int IntKind.i64 t661, Value.int IntKind.i64 t662, Value.tuple #[Value.agg #[Value.int IntKind.i64 t663, Value.slice Ao16 (List.length t664) co16], Value.bool t667], Value.string t660, Value.int IntKind.i64 t661, Value.int IntKind.i64 t662, Value.tuple #[Value.agg #[Value.int IntKind.i64 t663, Value.slice Ao16 (List.length t664) co16], Value.bool t667], Value.agg #[Value.int IntKind.i64 t663, Value.slice Ao16 (List.length t664) co16], u88, Value.tuple #[Value.agg #[Value.int IntKind.i64 t669, Value.slice Ao21 (List.length t670) co21], Value.bool t673], Value.string t660, Value.int IntKind.i64 t661, u92, u93, u94, u95, u96, u97, u98, u99, u100, u101, u102, u103, u104, u105, u106, u107, u108, u109, u110, u111, u112, u113, u114, u115, u116, u117, u118, u119, u120, u121, u122, u123, u124, u125, u126, u127, u128, u129, u130, u131, u132, u133, u134, u135, u136, u137, u138, u139, u140, u141, u142, u143, u144, u145, u146, u147, u148, u149, u150, u151, u152, u153, u154, u155, u156, u157, u158, u159, u160, u161, u162, u163, u164, u165, u166, u167, u168, u169, u170, u171, u172, u173, u174, u175, u176, u177, u178, u179, u180, u181, u182, u183, u184, u185, u186, u187, u188, u189, u190, u191, u192, u193, u194, u195, u196, u197, u198, u199, u200, u201, u202, u203, u204, u205, u206, u207, u208, u209, u210, u211, u212, u213, u214, u215, u216, u217, u218, u219, u220, u221, u222, u223, u224, u225, u226, u227, u228, u229, u230, u231, u232, u233, u234, u235, u236, u237, u238, u239, u240, u241, u242, u243, u244, u245, u246, u247, u248, Value.slice A1 (List.length l1) c1, Value.agg #[Value.int IntKind.i64 t706, Value.slice Ao104 (List.length t707) co104], Value.tuple #[Value.agg #[Value.int IntKind.i64 t711, Value.slice Ao109 (List.length t712) co109], Value.bool t715], u252, u253, u254, u255, u256, u257, u258, u259, u260, u261, u262, u263, u264, u265, u266, u267, u268, u269, u270, u271, u272, u273, u274, u275, u276, u277, u278, u279, u280, u281, u282, u283, u284, u285, u286, u287, u288, u289, u290, u291, u292, u293, u294, u295, u296, u297, u298, u299, u300, u301, u302, u303, u304, u305, u306, u307, u308, u309, u310, u311, u312, u313, u314, u315, u316, u317, u318, u319, u320, u321, u322, u323, u324, u325, u326, u327, u328, Value.tuple #[Value.agg #[Value.int IntKind.i64 t739, Value.slice Ao176 (List.length t740) co176], Value.agg #[Value.int IntKind.i64 t743, Value.int IntKind.i64 t744, Value.int IntKind.i64 t745, Value.int IntKind.i64 t746]], Value.slice A1 (List.length l1) c1, Value.tuple #[Value.agg #[Value.int IntKind.i64 t739, Value.slice Ao176 (List.length t740) co176], Value.agg #[Value.int IntKind.i64 t743, Value.int IntKind.i64 t744, Value.int IntKind.i64 t745, Value.int IntKind.i64 t746]], Value.agg #[Value.int IntKind.i64 t739, Value.slice Ao176 (List.length t740) co176], Value.agg #[Value.int IntKind.i64 t743, Value.int IntKind.i64 t744, Value.int IntKind.i64 t745, Value.int IntKind.i64 t746], Value.tuple #[Value.agg #[Value.int IntKind.i64 t749, Value.slice Ao183 (List.length t750) co183], Value.bool t753], Value.agg #[Value.int IntKind.i64 t739, Value.slice Ao176 (List.length t740) co176], Value.agg #[Value.int IntKind.i64 t743, Value.int IntKind.i64 t744, Value.int IntKind.i64 t745, Value.int IntKind.i64 t746], Value.tuple #[Value.agg #[Value.int IntKind.i64 t749, Value.slice Ao183 (List.length t750) co183], Value.bool t753], Value.agg #[Value.int IntKind.i64 t749, Value.slice Ao183 (List.length t750) co183], u339, Value.tuple #[Value.agg #[Value.int IntKind.i64 t755, Value.slice Ao192 (List.length t756) co192], Value.bool t759], Value.agg #[Value.int IntKind.i64 t739, Value.slice Ao176 (List.length t740) co176], Value.agg #[Value.int IntKind.i64 t743, Value.int IntKind.i64 t744, Value.int IntKind.i64 t745, Value.int IntKind.i64 t746], Value.tuple #[Value.agg #[Value.int IntKind.i64 t755, Value.slice Ao192 (List.length t756) co192], Value.bool t759], Value.agg #[Value.int IntKind.i64 t755, Value.slice Ao192 (List.length t756) co192], u345, Value.tuple #[Value.agg #[Value.int IntKind.i64 t761, Value.slice Ao200 (List.length t762) co200], Value.int IntKind.i64 t765], Value.slice A1 (List.length l1) c1, Value.tuple #[Value.agg #[Value.int IntKind.i64 t761, Value.slice Ao200 (List.length t762) co200], Value.int IntKind.i64 t765], Value.agg #[Value.int IntKind.i64 t761, Value.slice Ao200 (List.length t762) co200], Value.int IntKind.i64 t765, Value.tuple #[Value.agg #[Value.int IntKind.i64 t767, Value.slice Ao209 (List.length t768) co209], Value.bool t771], Value.agg #[Value.int IntKind.i64 t761, Value.slice Ao200 (List.length t762) co200], Value.int IntKind.i64 t765, Value.tuple #[Value.agg #[Value.int IntKind.i64 t767, Value.slice Ao209 (List.length t768) co209], Value.bool t771], Value.agg #[Value.int IntKind.i64 t767, Value.slice Ao209 (List.length t768) co209], u356, Value.tuple #[Value.agg #[Value.int IntKind.i64 t773, Value.slice Ao220 (List.length t774) co220], Value.bool t777], Value.agg #[Value.int IntKind.i64 t761, Value.slice Ao200 (List.length t762) co200], Value.int IntKind.i64 t765, Value.tuple #[Value.agg #[Value.int IntKind.i64 t773, Value.slice Ao220 (List.length t774) co220], Value.bool t777], Value.agg #[Value.int IntKind.i64 t773, Value.slice Ao220 (List.length t774) co220], u362, Value.tuple #[Value.agg #[Value.int IntKind.i64 t779, Value.int IntKind.i64 t780, Value.int IntKind.i64 t781, Value.int IntKind.i64 t782], Value.string t783], Value.slice A1 (List.length l1) c1, Value.tuple #[Value.agg #[Value.int IntKind.i64 t779, Value.int IntKind.i64 t780, Value.int IntKind.i64 t781, Value.int IntKind.i64 t782], Value.string t783], Value.agg #[Value.int IntKind.i64 t779, Value.int IntKind.i64 t780, Value.int IntKind.i64 t781, Value.int IntKind.i64 t782], Value.string t783, Value.tuple #[Value.bool t785, Value.bool t786], Value.agg #[Value.int IntKind.i64 t779, Value.int IntKind.i64 t780, Value.int IntKind.i64 t781, Value.int IntKind.i64 t782], Value.string t783, u371, u372, u373, u374, u375, u376, u377, u378, u379, u380, u381, u382, u383, u384, u385, u386, u387, u388, u389, u390, u391, u392, u393, u394, u395, u396, u397, u398, u399, u400, u401, u402, u403, u404, u405, u406, u407, u408, u409, u410, u411, u412, u413, u414, u415, u416, u417, u418, u419, u420, u421, u422, u423, u424, u425, u426, u427, u428, u429, u430, u431, u432, Value.bool x433_169, undef, undef, undef, undef, undef, undef, undef, undef, undef, undef, undef, undef, undef, undef, undef, undef, undef, undef, undef, undef, undef, undef, undef, undef, undef, undef, undef, undef, undef, undef, undef, undef, undef, undef, undef, undef, undef, undef, undef, undef, undef, undef, undef, undef, undef, undef, undef, undef, undef, undef, undef, undef, undef], defers := [] } wc := by
 conv at x3_ in cdd _ _ => whnf
 conv in cdd _ _ => whnf
 try dsimp only
 cases kq with
 | zero => exact absurd HA.out (by simp [laws_FnRowsHidden.j6])
 | succ kj169 =>
  have H := HA.out
  clear HA
  simp only [laws_FnRowsHidden.j6] at H
  by_cases c271 : x433_169 = true
  ·subst c271
   rw [if_pos rfl] at H
   exact absurd (Option.some.inj H) (by rw [HRT.out]; decide)
  replace c271 := Bool.eq_false_iff.mpr c271
  subst c271
  rw [if_neg (show ¬ (false = true) by decide)] at H
  have HC272 := Aside0.mk H
  clear H
  go_upto_if 434 with (fail)
  go_cut [378, 379, 385, 386, 387, 388, 391, 392, 393, 394, 395, 396, 397, 398, 399, 402, 403, 404, 405, 406, 407, 408, 409, 410, 411, 412, 413, 414, 415, 418, 421, 422, 423, 424, 425, 426, 427, 428, 429, 430, 431, 432, 433, 434] from 9999 (fun _ _ _ _ _ _ _ _ _ _ _ _ _ _ _ _ _ _ _ _ _ _ _ _ _ _ _ _ _ _ _ _ _ _ _ _ _ _ _ _ _ _ _ _ wc => ∃ (kq : Nat), Aside0 (laws_FnRowsHidden.j7 kq t765 t771 t761 t762 t767 t768 = some r) ∧ Aside0 (kq ≤ kj169) ∧ Aside0 (Kd.R k37 37 wc w.heap.size (fun k_ => some k_ ≠ ((.slice Ao209 t768.length co209) : Value).ownBlock) (.slice Ao200 t762.length co200) t762) ∧ Aside0 (Kd.R k37 37 wc w.heap.size (fun k_ => some k_ ≠ ((.slice Ao200 t762.length co200) : Value).ownBlock) (.slice Ao209 t768.length co209) t768) ∧ Aside0 (wc.heap[gb766]? = some (.cells #[.int .i64 t761, (.slice Ao200 t762.length co200)] 28 (0, 0))) ∧ Aside0 (wc.heap[gb772]? = some (.cells #[.int .i64 t767, (.slice Ao209 t768.length co209)] 28 (0, 0))) ∧ Aside0 (Below w.heap.size w wc))
  case first =>
   rename_i J5_ K5_ hJ5_ hM5_
   have H := HC272.out
   clear HC272
   by_cases c273 : t753 = true
   ·subst c273
    rw [if_pos rfl] at H
    replace H := ob H
    obtain ⟨⟨t800, t801, t804⟩, A274, H⟩ := H
    (try dsimp only at H)
    replace H := ofr HRT H
    obtain ⟨c275, H⟩ := H
    subst c275
    replace H := ob H
    obtain ⟨t806, A276, H⟩ := H
    (try dsimp only at H)
    replace H := ofr HRT H
    obtain ⟨c277, H⟩ := H
    subst c277
    replace H := oi H
    obtain ⟨c278, H⟩ := H
    have c278b0 := decide_eq_true c278
    have c278b1 : decide (0 ≤ t740.length) = true := decide_eq_true (by omega)
    clear c278
    (first | rw [c278b0] | rw [@decide_eq_true _ _ (of_decide_eq_true c278b1)] | rw [@decide_eq_false _ _ (of_decide_eq_false c278b1)] | (simp only [i64_w, i32_w]; rw [c278b0]) | skip)
    replace H := oi H
    obtain ⟨c279, H⟩ := H
    have c279b0 := decide_eq_true c279
    have c279b1 : decide (t740.length < t750.length) = true := decide_eq_true (Int.ofNat_lt.mp c279)
    clear c279
    replace H := ofl HRT H
    obtain ⟨c280, H⟩ := H
    have c280b0 : (!(((rd_T37 t750 (t740.length : Int)).f0) == t743) || (!(((rd_T37 t750 (t740.length : Int)).f1) == t744) || (!(((rd_T37 t750 (t740.length : Int)).f2) == t745) || (!(((rd_T37 t750 (t740.length : Int)).f3) == t746))))) = false := by simpa using c280
    clear c280
    have H' := Aside0.mk H
    clear H
    have hnb281 := nb NB754_747
    have hnb282 := nb NB754_748
    have hnb283 := nb NB754_766
    have hnb284 := nb NB754_772
    have hcz285_0 : wc.cell? ⟨gb754, 0, none⟩ = some (.int .i64 t749) := ec BK754
    have hcz285_1 : wc.cell? ⟨gb754, 1, none⟩ = some (.slice Ao183 t750.length co183) := ec BK754
    have hfz285_0 := blk_frozen BK754.out 0
    have hfz285_1 := blk_frozen BK754.out 1
    have hnb286 := nb NB747_748
    have hnb287 := nb NB747_766
    have hnb288 := nb NB747_772
    have hcz289_0 : wc.cell? ⟨gb747, 0, none⟩ = some (.int .i64 t739) := ec BK747
    have hcz289_1 : wc.cell? ⟨gb747, 1, none⟩ = some (.slice Ao176 t740.length co176) := ec BK747
    have hfz289_0 := blk_frozen BK747.out 0
    have hfz289_1 := blk_frozen BK747.out 1
    try go_wp2_with (first | ((with_reducible refine gc 26 ?_); refine gl (some 440) Tryz.func26 #[.agg #[.int .i64 t749, .slice Ao183 t750.length co183], .int .i64 (t740.length : Int)] ?_; (with_reducible refine (impl_DropClue.calls kj169 t749 _ _ t750 (t740.length : Int) t800 t801 true _ ?_ ?_ A274.out).mono ?_); exact rr HO_755001; exact rn HO_755001; rintro e w290 ⟨v802, rfl, ho0, hb⟩; refine ⟨_, rfl, ?_⟩; have HO803 := Aside0.mk (Kd.R_lower (Kd.R_newB (Kd.R_new' (Kd.R_new' (Kd.R_new' (Kd.R_new' ho0 (Kd.R_lt (pr HO_748001))) (Kd.R_lt (pr HO_755001))) (Kd.R_lt (pr HO_767001))) (Kd.R_lt (pr HO_773001))) (pk BK748)) (below_size bw)); replace HO_748001 := re HO_748001 ho0 hb; replace HO_755001 := re HO_755001 ho0 hb; replace HO_767001 := re HO_767001 ho0 hb; replace HO_773001 := re HO_773001 ho0 hb; replace BK747 := nk BK747 hb; replace BK748 := nk BK748 hb; replace BK754 := nk BK754 hb; replace BK766 := nk BK766 hb; replace BK772 := nk BK772 hb; replace HB := bs hb; (try clear hb); (try clear ho0)) | ((with_reducible refine gd 69 ?_); (try (refine gate_guard (by rfl) ?_; dsimp only)); refine bx 69 28 #[.int .i64 0, .slice none 0 0] ?_; intro gb805 hg w291 hbox hb; replace HO_748001 := rl HO_748001 hb; replace HO_755001 := rl HO_755001 hb; replace HO_767001 := rl HO_767001 hb; replace HO_773001 := rl HO_773001 hb; replace HO803 := rl HO803 hb; have BK805 := hbox; have GW805 := gs hg; have GE805 := gs hg; replace HB := bs hb; have ⟨NB747_805, NB805_747⟩ := nn BK747 hg; replace BK747 := nk BK747 hb; have ⟨NB748_805, NB805_748⟩ := nn BK748 hg; replace BK748 := nk BK748 hb; have ⟨NB754_805, NB805_754⟩ := nn BK754 hg; replace BK754 := nk BK754 hb; have ⟨NB766_805, NB805_766⟩ := nn BK766 hg; replace BK766 := nk BK766 hb; have ⟨NB772_805, NB805_772⟩ := nn BK772 hg; replace BK772 := nk BK772 hb; clear hb hbox hg; have hnb292 := nb NB805_747; have hnb293 := nb NB805_748; have hnb294 := nb NB805_754; have hnb295 := nb NB805_766; have hnb296 := nb NB805_772; obtain ⟨hcz297_0, hcz297_1, hfz297_0, hfz297_1⟩ := z2 BK805; obtain ⟨Ao298, co298, eo298⟩ := Kd.R_slice HO803.out; subst eo298))
    have n0_ : Aside0 (Kd.R k37 37 ((w291.setCell ⟨gb805, 0, none⟩ (.int .i64 t800)).setCell ⟨gb805, 1, none⟩ (.slice Ao298 t801.length co298)) w.heap.size (fun k_ => some k_ ≠ (.slice Ao183 t750.length co183 : Value).ownBlock ∧ some k_ ≠ (.slice Ao200 t762.length co200 : Value).ownBlock ∧ some k_ ≠ (.slice Ao209 t768.length co209 : Value).ownBlock ∧ some k_ ≠ (.slice Ao298 t801.length co298 : Value).ownBlock ∧ k_ ≠ gb748) (.slice Ao176 t740.length co176) t740) := ⟨by (with_reducible repeat (first | apply Kd.R_alloc | apply Kd.R_drewN | apply Kd.R_drew)); exact Kd.R_mono (Kd.R_far (p := ⟨gb805, 1, none⟩) (Kd.R_far (p := ⟨gb805, 0, none⟩) (Kd.R_types HO_748001.out BK805.out (by decide)) (fun _ hk => hk.2) (.int .i64 t800)) (fun _ hk => hk.2) (.slice Ao298 t801.length co298)) (fun _ hk => ⟨hk.1.1.1, ⟨hk.1.1.2.1, ⟨hk.1.1.2.2.1, ⟨hk.1.2, hk.1.1.2.2.2⟩⟩⟩⟩)⟩
    have n1_ : Aside0 (Kd.R k37 37 ((w291.setCell ⟨gb805, 0, none⟩ (.int .i64 t800)).setCell ⟨gb805, 1, none⟩ (.slice Ao298 t801.length co298)) w.heap.size (fun k_ => some k_ ≠ (.slice Ao176 t740.length co176 : Value).ownBlock ∧ some k_ ≠ (.slice Ao200 t762.length co200 : Value).ownBlock ∧ some k_ ≠ (.slice Ao209 t768.length co209 : Value).ownBlock ∧ some k_ ≠ (.slice Ao298 t801.length co298 : Value).ownBlock ∧ k_ ≠ gb748) (.slice Ao183 t750.length co183) t750) := ⟨by (with_reducible repeat (first | apply Kd.R_alloc | apply Kd.R_drewN | apply Kd.R_drew)); exact Kd.R_mono (Kd.R_far (p := ⟨gb805, 1, none⟩) (Kd.R_far (p := ⟨gb805, 0, none⟩) (Kd.R_types HO_755001.out BK805.out (by decide)) (fun _ hk => hk.2) (.int .i64 t800)) (fun _ hk => hk.2) (.slice Ao298 t801.length co298)) (fun _ hk => ⟨hk.1.1.1, ⟨hk.1.1.2.1, ⟨hk.1.1.2.2.1, ⟨hk.1.2, hk.1.1.2.2.2⟩⟩⟩⟩)⟩
    have n2_ : Aside0 (Kd.R k37 37 ((w291.setCell ⟨gb805, 0, none⟩ (.int .i64 t800)).setCell ⟨gb805, 1, none⟩ (.slice Ao298 t801.length co298)) w.heap.size (fun k_ => some k_ ≠ (.slice Ao176 t740.length co176 : Value).ownBlock ∧ some k_ ≠ (.slice Ao183 t750.length co183 : Value).ownBlock ∧ some k_ ≠ (.slice Ao209 t768.length co209 : Value).ownBlock ∧ some k_ ≠ (.slice Ao298 t801.length co298 : Value).ownBlock ∧ k_ ≠ gb748) (.slice Ao200 t762.length co200) t762) := ⟨by (with_reducible repeat (first | apply Kd.R_alloc | apply Kd.R_drewN | apply Kd.R_drew)); exact Kd.R_mono (Kd.R_far (p := ⟨gb805, 1, none⟩) (Kd.R_far (p := ⟨gb805, 0, none⟩) (Kd.R_types HO_767001.out BK805.out (by decide)) (fun _ hk => hk.2) (.int .i64 t800)) (fun _ hk => hk.2) (.slice Ao298 t801.length co298)) (fun _ hk => ⟨hk.1.1.1, ⟨hk.1.1.2.1, ⟨hk.1.1.2.2.1, ⟨hk.1.2, hk.1.1.2.2.2⟩⟩⟩⟩)⟩
    have n3_ : Aside0 (Kd.R k37 37 ((w291.setCell ⟨gb805, 0, none⟩ (.int .i64 t800)).setCell ⟨gb805, 1, none⟩ (.slice Ao298 t801.length co298)) w.heap.size (fun k_ => some k_ ≠ (.slice Ao176 t740.length co176 : Value).ownBlock ∧ some k_ ≠ (.slice Ao183 t750.length co183 : Value).ownBlock ∧ some k_ ≠ (.slice Ao200 t762.length co200 : Value).ownBlock ∧ some k_ ≠ (.slice Ao298 t801.length co298 : Value).ownBlock ∧ k_ ≠ gb748) (.slice Ao209 t768.length co209) t768) := ⟨by (with_reducible repeat (first | apply Kd.R_alloc | apply Kd.R_drewN | apply Kd.R_drew)); exact Kd.R_mono (Kd.R_far (p := ⟨gb805, 1, none⟩) (Kd.R_far (p := ⟨gb805, 0, none⟩) (Kd.R_types HO_773001.out BK805.out (by decide)) (fun _ hk => hk.2) (.int .i64 t800)) (fun _ hk => hk.2) (.slice Ao298 t801.length co298)) (fun _ hk => ⟨hk.1.1.1, ⟨hk.1.1.2.1, ⟨hk.1.1.2.2.1, ⟨hk.1.2, hk.1.1.2.2.2⟩⟩⟩⟩)⟩
    have n4_ : Aside0 (Kd.R k37 37 ((w291.setCell ⟨gb805, 0, none⟩ (.int .i64 t800)).setCell ⟨gb805, 1, none⟩ (.slice Ao298 t801.length co298)) w.heap.size (fun k_ => some k_ ≠ (.slice Ao176 t740.length co176 : Value).ownBlock ∧ some k_ ≠ (.slice Ao183 t750.length co183 : Value).ownBlock ∧ some k_ ≠ (.slice Ao200 t762.length co200 : Value).ownBlock ∧ some k_ ≠ (.slice Ao209 t768.length co209 : Value).ownBlock ∧ k_ ≠ gb748) (.slice Ao298 t801.length co298) t801) := ⟨by (with_reducible repeat (first | apply Kd.R_alloc | apply Kd.R_drewN | apply Kd.R_drew)); exact Kd.R_mono (Kd.R_far (p := ⟨gb805, 1, none⟩) (Kd.R_far (p := ⟨gb805, 0, none⟩) (Kd.R_types HO803.out BK805.out (by decide)) (fun _ hk => hk.2) (.int .i64 t800)) (fun _ hk => hk.2) (.slice Ao298 t801.length co298)) (fun _ hk => ⟨hk.1.1.1.1.1.2, ⟨hk.1.1.1.1.2, ⟨hk.1.1.1.2, ⟨hk.1.1.2, hk.1.2⟩⟩⟩⟩)⟩
    have n5_ : Aside0 (((w291.setCell ⟨gb805, 0, none⟩ (.int .i64 t800)).setCell ⟨gb805, 1, none⟩ (.slice Ao298 t801.length co298)).heap[gb747]? = some (.cells #[.int .i64 t739, .slice Ao176 t740.length co176] 28 (0, 0))) := ⟨pf BK747⟩
    have n6_ : Aside0 (((w291.setCell ⟨gb805, 0, none⟩ (.int .i64 t800)).setCell ⟨gb805, 1, none⟩ (.slice Ao298 t801.length co298)).heap[gb748]? = some (.cells #[.int .i64 t743, .int .i64 t744, .int .i64 t745, .int .i64 t746] 37 (0, 0))) := ⟨pf BK748⟩
    have n7_ : Aside0 (((w291.setCell ⟨gb805, 0, none⟩ (.int .i64 t800)).setCell ⟨gb805, 1, none⟩ (.slice Ao298 t801.length co298)).heap[gb754]? = some (.cells #[.int .i64 t749, .slice Ao183 t750.length co183] 28 (0, 0))) := ⟨pf BK754⟩
    have n8_ : Aside0 (((w291.setCell ⟨gb805, 0, none⟩ (.int .i64 t800)).setCell ⟨gb805, 1, none⟩ (.slice Ao298 t801.length co298)).heap[gb766]? = some (.cells #[.int .i64 t761, .slice Ao200 t762.length co200] 28 (0, 0))) := ⟨pf BK766⟩
    have n9_ : Aside0 (((w291.setCell ⟨gb805, 0, none⟩ (.int .i64 t800)).setCell ⟨gb805, 1, none⟩ (.slice Ao298 t801.length co298)).heap[gb772]? = some (.cells #[.int .i64 t767, .slice Ao209 t768.length co209] 28 (0, 0))) := ⟨pf BK772⟩
    have n10_ : Aside0 (((w291.setCell ⟨gb805, 0, none⟩ (.int .i64 t800)).setCell ⟨gb805, 1, none⟩ (.slice Ao298 t801.length co298)).heap[gb805]? = some (.cells #[.int .i64 t800, .slice Ao298 t801.length co298] 28 (0, 0))) := ⟨pz BK805⟩
    have n11_ : Aside0 (Below w.heap.size w ((w291.setCell ⟨gb805, 0, none⟩ (.int .i64 t800)).setCell ⟨gb805, 1, none⟩ (.slice Ao298 t801.length co298))) := ⟨bw⟩
    (try clear HO_748001)
    (try clear HO_755001)
    (try clear HO_767001)
    (try clear HO_773001)
    (try clear HO803)
    (try clear BK747)
    (try clear BK748)
    (try clear BK754)
    (try clear BK766)
    (try clear BK772)
    (try clear BK805)
    (try clear HB)
    generalize ((w291.setCell ⟨gb805, 0, none⟩ (.int .i64 t800)).setCell ⟨gb805, 1, none⟩ (.slice Ao298 t801.length co298)) = w299 at n0_ n1_ n2_ n3_ n4_ n5_ n6_ n7_ n8_ n9_ n10_ n11_ ⊢
    have HO_748001 := n0_
    have HO_755001 := n1_
    have HO_767001 := n2_
    have HO_773001 := n3_
    have HO803 := n4_
    have BK747 := n5_
    have BK748 := n6_
    have BK754 := n7_
    have BK766 := n8_
    have BK772 := n9_
    have BK805 := n10_
    have HB := n11_
    clear n0_ n1_ n2_ n3_ n4_ n5_ n6_ n7_ n8_ n9_ n10_ n11_
    replace HO_748001 := Aside0.mk (Kd.R_drew HO_748001.out)
    replace HO_755001 := Aside0.mk (Kd.R_drew HO_755001.out)
    replace HO_767001 := Aside0.mk (Kd.R_drew HO_767001.out)
    replace HO_773001 := Aside0.mk (Kd.R_drew HO_773001.out)
    replace HO803 := Aside0.mk (Kd.R_drew HO803.out)
    replace BK747 := Aside0.mk (blk_drew BK747.out)
    replace BK748 := Aside0.mk (blk_drew BK748.out)
    replace BK754 := Aside0.mk (blk_drew BK754.out)
    replace BK766 := Aside0.mk (blk_drew BK766.out)
    replace BK772 := Aside0.mk (blk_drew BK772.out)
    replace BK805 := Aside0.mk (blk_drew BK805.out)
    replace HB := Aside0.mk (below_drew1 HB.out)
    have p807 : 0 ≤ ((t740.length : Int) : Int) := of_decide_eq_true asm
    have q807 : (t740.length : Int) < (t750.length : Int) := of_decide_eq_true asm
    obtain ⟨ad807, e807, hx807_0, hx807_1, hx807_2, hx807_3⟩ := at_T37 (Kd.R_reads' HO_755001.out).2.2 (t740.length : Int) p807 q807
    cases e807
    (try simp only [Go.IntWalk.toNatUp] at hx807_0)
    (try simp only [Go.IntWalk.toNatUp] at hx807_1)
    (try simp only [Go.IntWalk.toNatUp] at hx807_2)
    (try simp only [Go.IntWalk.toNatUp] at hx807_3)
    replace p807 := eq_true p807
    replace q807 := eq_true q807
    refine start_ (n := 19) (S := fun w' => w'.cell? ⟨gb805, 0, none⟩ = some (.int .i64 t800) ∧ w'.cell? ⟨gb805, 1, none⟩ = some (.slice Ao298 t801.length co298) ∧ w'.cell? ⟨gb747, 0, none⟩ = some (.int .i64 t739) ∧ w'.cell? ⟨gb747, 1, none⟩ = some (.slice Ao176 t740.length co176) ∧ w'.cell? ⟨gb754, 0, none⟩ = some (.int .i64 t749) ∧ w'.cell? ⟨gb754, 1, none⟩ = some (.slice (some ad807) t750.length co183) ∧ w'.cell? ⟨gb748, 0, none⟩ = some (.int .i64 t743) ∧ w'.cell? ⟨gb748, 1, none⟩ = some (.int .i64 t744) ∧ w'.cell? ⟨gb748, 2, none⟩ = some (.int .i64 t745) ∧ w'.cell? ⟨gb748, 3, none⟩ = some (.int .i64 t746) ∧ w'.cell? (ad807.add (t740.length * 4)) = some (.int .i64 ((rd_T37 t750 (t740.length : Int)).f0)) ∧ w'.cell? ⟨(ad807.add (t740.length * 4)).block, (ad807.add (t740.length * 4)).off + 1, none⟩ = some (.int .i64 ((rd_T37 t750 (t740.length : Int)).f1)) ∧ w'.cell? ⟨(ad807.add (t740.length * 4)).block, (ad807.add (t740.length * 4)).off + 2, none⟩ = some (.int .i64 ((rd_T37 t750 (t740.length : Int)).f2)) ∧ w'.cell? ⟨(ad807.add (t740.length * 4)).block, (ad807.add (t740.length * 4)).off + 3, none⟩ = some (.int .i64 ((rd_T37 t750 (t740.length : Int)).f3))) (ds := []) (tb 19 0) (by kernel_rfl) rfl rfl ⟨ec BK805, ec BK805, ec BK747, ec BK747, ec BK754, ec BK754, ec BK748, ec BK748, ec BK748, ec BK748, hx807_0, hx807_1, hx807_2, hx807_3⟩ (fun hHeld => ?_); refine with_tabW laws_FnRowsHidden.tab66 laws_FnRowsHidden.bits66 (fun HT_ HW_ => ?_)
    generalize w299.drew = w300 at HO_748001 HO_755001 HO_767001 HO_773001 HO803 BK747 BK748 BK754 BK766 BK772 BK805 HB hx807_0 hx807_1 hx807_2 hx807_3 hHeld ⊢
    refine pu 0 (some 443) (tb 19 1) ?_
    refine pu 1 (some 444) (tb 19 3) ?_
    refine pu 2 (some 445) (tb 19 7) ?_
    refine tk 3 (some 446) (tb 19 15) (hT := HT_) (hB := HW_) hHeld ?_
    refine tk 4 (some 447) (tb 19 31) (hT := HT_) (hB := HW_) hHeld ?_
    refine one_ (i := 5) (N := some 448) (tb 19 63) rfl rfl (one_of HT_.out (by kernel_rfl)) (by decide) (fun K hK => ?_)
    refine go1 Tryz.func8 #[.agg #[.int .i64 t800, .slice Ao298 t801.length co298], .agg #[.int .i64 t739, .slice Ao176 t740.length co176]] ?_
    with_reducible refine (laws_vPuzzle.calls kj169 t800 _ _ t801 t739 _ _ t740 true _ ?side1 ?side2 ?side3 ?side4 A276.out).mono ?_
    (case side1 => exact rr HO803)
    (case side2 => exact rn HO803)
    (case side3 => exact rr HO_748001)
    (case side4 => exact rn HO_748001)
    rintro e w301 ⟨rfl, hb⟩
    have HS10_ := (hb.cell (World.block_lt_of_cell? _ _ (hHeld.2.2.2.2.2.2.2.2.2.2.1))).trans (hHeld.2.2.2.2.2.2.2.2.2.2.1)
    have HS11_ := (hb.cell (World.block_lt_of_cell? _ _ (hHeld.2.2.2.2.2.2.2.2.2.2.2.1))).trans (hHeld.2.2.2.2.2.2.2.2.2.2.2.1)
    have HS12_ := (hb.cell (World.block_lt_of_cell? _ _ (hHeld.2.2.2.2.2.2.2.2.2.2.2.2.1))).trans (hHeld.2.2.2.2.2.2.2.2.2.2.2.2.1)
    have HS13_ := (hb.cell (World.block_lt_of_cell? _ _ (hHeld.2.2.2.2.2.2.2.2.2.2.2.2.2))).trans (hHeld.2.2.2.2.2.2.2.2.2.2.2.2.2)
    refine ⟨_, rfl, ?_⟩
    replace HO_748001 := rl HO_748001 hb
    replace HO_755001 := rl HO_755001 hb
    replace HO_767001 := rl HO_767001 hb
    replace HO_773001 := rl HO_773001 hb
    replace HO803 := rl HO803 hb
    replace BK747 := nk BK747 hb
    replace BK748 := nk BK748 hb
    replace BK754 := nk BK754 hb
    replace BK766 := nk BK766 hb
    replace BK772 := nk BK772 hb
    replace BK805 := nk BK805 hb
    replace HB := bs hb
    (try clear hb)
    refine hK.out _ _ ⟨ec BK805, ec BK805, ec BK747, ec BK747, ec BK754, ec BK754, ec BK748, ec BK748, ec BK748, ec BK748, HS10_, HS11_, HS12_, HS13_⟩ (fun hHeld => ?_)
    clear hK K
    refine nm (some 448) ?_
    refine pu 6 (some 449) (tb 19 127) ?_
    refine pu 7 (some 450) (tb 19 255) ?_
    refine pu 8 (some 451) (tb 19 511) ?_
    refine pu 9 (some 452) (tb 19 1023) ?_
    refine pu 11 (some 454) (tb 19 3071) ?_
    refine tk 10 (some 453) (tb 19 4095) (hT := HT_) (hB := HW_) hHeld ?_
    refine tk 12 (some 455) (tb 19 8191) (hT := HT_) (hB := HW_) hHeld ?_
    refine pu 13 (some 456) (tb 19 16383) ?_
    refine pu 14 (some 457) (tb 19 32767) ?_
    refine tk 15 (some 458) (tb 19 65535) (hT := HT_) (hB := HW_) hHeld ?_
    refine tk 16 (some 459) (tb 19 131071) (hT := HT_) (hB := HW_) hHeld ?_
    refine pu 17 (some 460) (tb 19 262143) ?_
    refine pu 18 (some 461) (tb 19 524287) ?_
    refine done_ (done_of HT_.out (by kernel_rfl)) ?_
    try go_wp2
    go_meet
    case rel => exact ⟨_, H', ⟨by have := HJ10.out; have := HJ99.out; have := HJ135.out; have := HJ169.out; first | omega | exact Nat.le_refl _⟩, ⟨by (with_reducible repeat (first | apply Kd.R_alloc | apply Kd.R_drewN | apply Kd.R_drew)); exact Kd.R_mono HO_767001.out (fun _ hk => hk.2.2.1)⟩, ⟨by (with_reducible repeat (first | apply Kd.R_alloc | apply Kd.R_drewN | apply Kd.R_drew)); exact Kd.R_mono HO_773001.out (fun _ hk => hk.2.2.1)⟩, ⟨pk BK766⟩, ⟨pk BK772⟩, ⟨bw⟩⟩
   replace c273 := Bool.eq_false_iff.mpr c273
   subst c273
   rw [if_neg (show ¬ (false = true) by decide)] at H
   have H' := Aside0.mk H
   clear H
   go_wp2
   go_meet
   case rel => exact ⟨_, H', ⟨by have := HJ10.out; have := HJ99.out; have := HJ135.out; have := HJ169.out; first | omega | exact Nat.le_refl _⟩, ⟨by (with_reducible repeat (first | apply Kd.R_alloc | apply Kd.R_drewN | apply Kd.R_drew)); exact Kd.R_mono HO_767001.out (fun _ hk => hk.2.2.1)⟩, ⟨by (with_reducible repeat (first | apply Kd.R_alloc | apply Kd.R_drewN | apply Kd.R_drew)); exact Kd.R_mono HO_773001.out (fun _ hk => hk.2.2.1)⟩, ⟨pk BK766⟩, ⟨pk BK772⟩, ⟨bw⟩⟩
  case rest =>
   clear HC272
   repeat (first|clear p8|clear q8|clear hx8|clear c26|clear c27|clear c28|clear c29|clear p80|clear q80|clear hx80|clear c278|clear c278b0|clear c278b1|clear c279|clear c279b0|clear c279b1|clear c280|clear c280b0|clear c281|clear c282|clear c283|clear c284|clear c286|clear c287|clear c288|clear c292|clear c293|clear c294|clear c295|clear c296|clear hcz285_0|clear hcz285_1|clear hcz289_0|clear hcz289_1|clear hcz297_0|clear hcz297_1|clear hfz285_0|clear hfz285_1|clear hfz289_0|clear hfz289_1|clear hfz297_0|clear hfz297_1|clear hx807_0|clear hx807_1|clear hx807_2|clear hx807_3|clear p807|clear q807)
   obtain ⟨kq, HA, HJ271, HO_767001, HO_773001, BK766, BK772, HB⟩ := hcut
   cases kq with
   | zero => exact absurd HA.out (by simp [laws_FnRowsHidden.j7])
   | succ kj271 =>
    have H := HA.out
    clear HA
    simp only [laws_FnRowsHidden.j7] at H
    have HC302 := Aside0.mk H
    clear H
    go_upto_region 68 with (fail)
    go_cut [402, 403, 404, 405, 406, 407, 408, 409, 410, 411, 412, 413, 414, 415, 418, 421, 422, 423, 424, 425, 426, 430, 431, 432, 433, 434, 442, 443, 444, 445, 448, 449, 450, 451, 452, 453, 454, 455, 456, 457, 458, 459, 460, 461, 470] from 9999 (fun _ _ _ _ _ _ _ _ _ _ _ _ _ _ _ _ _ _ _ _ _ _ _ _ _ _ _ _ _ _ _ _ _ _ _ _ _ _ _ _ _ _ _ _ v470 wc => ∃ (kq : Nat) (x470_301 : Bool), v470 = .bool x470_301 ∧ Aside0 (laws_FnRowsHidden.j8 kq t765 x470_301 t761 t762 t767 t768 = some r) ∧ Aside0 (kq ≤ kj271) ∧ Aside0 (Kd.R k37 37 wc w.heap.size (fun k_ => some k_ ≠ ((.slice Ao209 t768.length co209) : Value).ownBlock) (.slice Ao200 t762.length co200) t762) ∧ Aside0 (Kd.R k37 37 wc w.heap.size (fun k_ => some k_ ≠ ((.slice Ao200 t762.length co200) : Value).ownBlock) (.slice Ao209 t768.length co209) t768) ∧ Aside0 (wc.heap[gb766]? = some (.cells #[.int .i64 t761, (.slice Ao200 t762.length co200)] 28 (0, 0))) ∧ Aside0 (wc.heap[gb772]? = some (.cells #[.int .i64 t767, (.slice Ao209 t768.length co209)] 28 (0, 0))) ∧ Aside0 (Below w.heap.size w wc))
    case first =>
     rename_i J6_ K6_ hJ6_ hM6_
     have H := HC302.out
     clear HC302
     by_cases c303 : t771 = true
     ·subst c303
      rw [if_pos rfl] at H
      have H' := Aside0.mk H
      clear H
      have hnb304 := nb NB766_772
      have hcz305_0 : wc.cell? ⟨gb766, 0, none⟩ = some (.int .i64 t761) := ec BK766
      have hcz305_1 : wc.cell? ⟨gb766, 1, none⟩ = some (.slice Ao200 t762.length co200) := ec BK766
      have hfz305_0 := blk_frozen BK766.out 0
      have hfz305_1 := blk_frozen BK766.out 1
      go_wp2
      go_meet
      case rel => exact ⟨_, ((t765 == (wrap64 ((t762.length : Int) - 1)))), (rs), H', ⟨by have := HJ10.out; have := HJ99.out; have := HJ135.out; have := HJ169.out; have := HJ271.out; first | omega | exact Nat.le_refl _⟩, ⟨pr HO_767001⟩, ⟨pr HO_773001⟩, ⟨pk BK766⟩, ⟨pk BK772⟩, ⟨bw⟩⟩
     replace c303 := Bool.eq_false_iff.mpr c303
     subst c303
     rw [if_neg (show ¬ (false = true) by decide)] at H
     have H' := Aside0.mk H
     clear H
     go_wp2
     go_meet
     case rel => exact ⟨_, (false), (rs), H', ⟨by have := HJ10.out; have := HJ99.out; have := HJ135.out; have := HJ169.out; have := HJ271.out; first | omega | exact Nat.le_refl _⟩, ⟨pr HO_767001⟩, ⟨pr HO_773001⟩, ⟨pk BK766⟩, ⟨pk BK772⟩, ⟨bw⟩⟩
    case rest =>
     clear HC302
     repeat (first|clear c30|clear c304|clear hcz305_0|clear hcz305_1|clear hfz305_0|clear hfz305_1)
     obtain ⟨kq, x470_301, rfl, HA, HJ301, HO_767001, HO_773001, BK766, BK772, HB⟩ := hcut
     cases kq with
     | zero => exact absurd HA.out (by simp [laws_FnRowsHidden.j8])
     | succ kj301 =>
      have H := HA.out
      clear HA
      simp only [laws_FnRowsHidden.j8] at H
      by_cases c306 : x470_301 = true
      ·subst c306
       rw [if_pos rfl] at H
       replace H := oi H
       obtain ⟨c307, H⟩ := H
       have c307b0 := decide_eq_true c307
       clear c307
       replace H := oi H
       obtain ⟨c308, H⟩ := H
       have c308b0 := decide_eq_true c308
       clear c308
       replace H := ob H
       obtain ⟨⟨t809, t810, t813⟩, A309, H⟩ := H
       (try dsimp only at H)
       replace H := ofr HRT H
       obtain ⟨c310, H⟩ := H
       subst c310
       replace H := ob H
       obtain ⟨t815, A311, H⟩ := H
       (try dsimp only at H)
       obtain rfl := Option.some.inj H
       try go_upto_region 69 with (fail)
       replace HO_767001 := Aside0.mk (Kd.R_drew HO_767001.out)
       replace HO_773001 := Aside0.mk (Kd.R_drew HO_773001.out)
       replace BK766 := Aside0.mk (blk_drew BK766.out)
       replace BK772 := Aside0.mk (blk_drew BK772.out)
       replace HB := Aside0.mk (below_drew1 HB.out)
       have p808 : 0 ≤ (t765 : Int) := of_decide_eq_true asm
       have q808 : t765 < (t762.length : Int) := of_decide_eq_true asm
       obtain ⟨ad808, e808, hx808_0, hx808_1, hx808_2, hx808_3⟩ := at_T37 (Kd.R_reads' HO_767001.out).2.2 t765 p808 q808
       cases e808
       replace p808 := eq_true p808
       replace q808 := eq_true q808
       refine start_ (n := 13) (S := fun w' => w'.cell? ⟨gb772, 0, none⟩ = some (.int .i64 t767) ∧ w'.cell? ⟨gb772, 1, none⟩ = some (.slice Ao209 t768.length co209) ∧ w'.cell? ⟨gb766, 0, none⟩ = some (.int .i64 t761) ∧ w'.cell? ⟨gb766, 1, none⟩ = some (.slice (some ad808) t762.length co200) ∧ w'.cell? (ad808.add ((t765).toNat * 4)) = some (.int .i64 ((rd_T37 t762 t765).f0)) ∧ w'.cell? ⟨(ad808.add ((t765).toNat * 4)).block, (ad808.add ((t765).toNat * 4)).off + 1, none⟩ = some (.int .i64 ((rd_T37 t762 t765).f1)) ∧ w'.cell? ⟨(ad808.add ((t765).toNat * 4)).block, (ad808.add ((t765).toNat * 4)).off + 2, none⟩ = some (.int .i64 ((rd_T37 t762 t765).f2)) ∧ w'.cell? ⟨(ad808.add ((t765).toNat * 4)).block, (ad808.add ((t765).toNat * 4)).off + 3, none⟩ = some (.int .i64 ((rd_T37 t762 t765).f3))) (ds := []) (tb 13 0) (by kernel_rfl) rfl rfl ⟨ec BK772, ec BK772, ec BK766, ec BK766, hx808_0, hx808_1, hx808_2, hx808_3⟩ (fun hHeld => ?_); refine with_tabW laws_FnRowsHidden.tab69 laws_FnRowsHidden.bits69 (fun HT_ HW_ => ?_)
       generalize wc.drew = w312 at HO_767001 HO_773001 BK766 BK772 HB hx808_0 hx808_1 hx808_2 hx808_3 hHeld ⊢
       refine pu 1 (some 473) (tb 13 2) ?_
       refine pu 3 (some 475) (tb 13 10) ?_
       refine tk 0 (some 472) (tb 13 11) (hT := HT_) (hB := HW_) hHeld ?_
       refine tk 2 (some 474) (tb 13 15) (hT := HT_) (hB := HW_) hHeld ?_
       refine pu 4 (some 476) (tb 13 31) ?_
       refine tk 5 (some 477) (tb 13 63) (hT := HT_) (hB := HW_) hHeld ?_
       refine join_ (σ := Value × Nat) 2 (tb 13 2047) (fun s_ => [(478, .tuple #[.agg #[.int .i64 t809, s_.1], .bool true]), (71, .pointer (some ⟨s_.2, 0, none⟩)), (471, .tuple #[.agg #[.int .i64 t809, s_.1], .bool true]), (479, .agg #[.int .i64 t809, s_.1]), (480, .bool true)]) (fun s_ w' => (w'.cell? ⟨gb772, 0, none⟩ = some (.int .i64 t767) ∧ w'.cell? ⟨gb772, 1, none⟩ = some (.slice Ao209 t768.length co209) ∧ w'.cell? ⟨gb766, 0, none⟩ = some (.int .i64 t761) ∧ w'.cell? ⟨gb766, 1, none⟩ = some (.slice (some ad808) t762.length co200) ∧ w'.cell? (ad808.add ((t765).toNat * 4)) = some (.int .i64 ((rd_T37 t762 t765).f0)) ∧ w'.cell? ⟨(ad808.add ((t765).toNat * 4)).block, (ad808.add ((t765).toNat * 4)).off + 1, none⟩ = some (.int .i64 ((rd_T37 t762 t765).f1)) ∧ w'.cell? ⟨(ad808.add ((t765).toNat * 4)).block, (ad808.add ((t765).toNat * 4)).off + 2, none⟩ = some (.int .i64 ((rd_T37 t762 t765).f2)) ∧ w'.cell? ⟨(ad808.add ((t765).toNat * 4)).block, (ad808.add ((t765).toNat * 4)).off + 3, none⟩ = some (.int .i64 ((rd_T37 t762 t765).f3))) ∧ (Kd.R k37 37 w' w.heap.size (fun k_ => some k_ ≠ (.slice (some ad808) t762.length co200 : Value).ownBlock ∧ some k_ ≠ (.slice Ao209 t768.length co209 : Value).ownBlock) s_.1 t810) ∧ (Kd.R k37 37 w' w.heap.size (fun k_ => some k_ ≠ (s_.1 : Value).ownBlock ∧ some k_ ≠ (.slice Ao209 t768.length co209 : Value).ownBlock) (.slice (some ad808) t762.length co200) t762) ∧ (Kd.R k37 37 w' w.heap.size (fun k_ => some k_ ≠ (s_.1 : Value).ownBlock ∧ some k_ ≠ (.slice (some ad808) t762.length co200 : Value).ownBlock) (.slice Ao209 t768.length co209) t768) ∧ (w'.heap[gb766]? = some (.cells #[.int .i64 t761, .slice (some ad808) t762.length co200] 28 (0, 0))) ∧ (w'.heap[gb772]? = some (.cells #[.int .i64 t767, .slice Ao209 t768.length co209] 28 (0, 0))) ∧ (w'.heap[s_.2]? = some (.cells #[.int .i64 0, .slice none 0 0] 28 (0, 0))) ∧ (w.heap.size ≤ s_.2) ∧ (w.heap.size ≤ s_.2) ∧ (gb766 ≠ s_.2) ∧ (s_.2 ≠ gb766) ∧ (gb772 ≠ s_.2) ∧ (s_.2 ≠ gb772) ∧ (Below w.heap.size w w')) ?_ ?_
       rotate_left
       ·intro hCont
        refine two_ (i := 6) (j := 10) (Ni := some 478) (Nj := some 71) (tb 13 127) (tb 13 1087) rfl rfl rfl rfl (two_of HT_.out (by kernel_rfl)) (by decide) (by decide) (fun K hK => ?_) (fun K hK => ?_)
        ·skip
         refine go1 Tryz.func23 #[.agg #[.int .i64 t767, .slice Ao209 t768.length co209], .agg #[.int .i64 ((rd_T37 t762 t765).f0), .int .i64 ((rd_T37 t762 t765).f1), .int .i64 ((rd_T37 t762 t765).f2), .int .i64 ((rd_T37 t762 t765).f3)]] ?_
         with_reducible refine (impl_AddClue.calls kj301 t767 _ _ t768 ((rd_T37 t762 t765).f0) ((rd_T37 t762 t765).f1) ((rd_T37 t762 t765).f2) ((rd_T37 t762 t765).f3) t809 t810 true _ ?side1 ?side2 A309.out).mono ?_
         (case side1 => exact rr HO_773001)
         (case side2 => exact rn HO_773001)
         rintro e w313 ⟨v811, rfl, ho0, hb⟩
         have HS4_ := (hb.cell (World.block_lt_of_cell? _ _ (hHeld.2.2.2.2.1))).trans (hHeld.2.2.2.2.1)
         have HS5_ := (hb.cell (World.block_lt_of_cell? _ _ (hHeld.2.2.2.2.2.1))).trans (hHeld.2.2.2.2.2.1)
         have HS6_ := (hb.cell (World.block_lt_of_cell? _ _ (hHeld.2.2.2.2.2.2.1))).trans (hHeld.2.2.2.2.2.2.1)
         have HS7_ := (hb.cell (World.block_lt_of_cell? _ _ (hHeld.2.2.2.2.2.2.2))).trans (hHeld.2.2.2.2.2.2.2)
         refine ⟨_, rfl, ?_⟩
         have HO812 := Aside0.mk (Kd.R_lower (Kd.R_new' (Kd.R_new' ho0 (Kd.R_lt (pr HO_767001))) (Kd.R_lt (pr HO_773001))) (below_size bw))
         replace HO_767001 := re HO_767001 ho0 hb
         replace HO_773001 := re HO_773001 ho0 hb
         replace BK766 := nk BK766 hb
         replace BK772 := nk BK772 hb
         replace HB := bs hb
         (try clear hb)
         (try clear ho0)
         refine hK.out _ _ ⟨ec BK772, ec BK772, ec BK766, ec BK766, HS4_, HS5_, HS6_, HS7_⟩ (fun hHeld => ?_)
         clear hK K
         refine nm (some 478) ?_
         refine pu 7 (some 471) (tb 13 255) ?_
         refine pu 8 (some 479) (tb 13 511) ?_
         refine pu 9 (some 480) (tb 13 1023) ?_
         refine one_ (i := 10) (N := some 71) (tb 13 2047) rfl rfl (one_of HT_.out (by kernel_rfl)) (by decide) (fun K hK => ?_)
         refine box_step ?hg (N := 71) ?hd (cs := #[.int .i64 0, .slice none 0 0]) (t := 28) ?hr ?_; (case hd => rfl); (case hg => rfl); (case hr => first | (go_simp; done) | (go_simp; rfl))
         intro gb814 hg w314 hbox hb
         have HS4_ := (hb.cell (World.block_lt_of_cell? _ _ (hHeld.2.2.2.2.1))).trans (hHeld.2.2.2.2.1)
         have HS5_ := (hb.cell (World.block_lt_of_cell? _ _ (hHeld.2.2.2.2.2.1))).trans (hHeld.2.2.2.2.2.1)
         have HS6_ := (hb.cell (World.block_lt_of_cell? _ _ (hHeld.2.2.2.2.2.2.1))).trans (hHeld.2.2.2.2.2.2.1)
         have HS7_ := (hb.cell (World.block_lt_of_cell? _ _ (hHeld.2.2.2.2.2.2.2))).trans (hHeld.2.2.2.2.2.2.2)
         replace HO_767001 := rl HO_767001 hb
         replace HO_773001 := rl HO_773001 hb
         replace HO812 := rl HO812 hb
         have BK814 := Aside0.mk (hbox)
         have GW814 := gs hg
         have GE814 := gs hg
         replace HB := bs hb
         have ⟨NB766_814, NB814_766⟩ := nn BK766 hg
         replace BK766 := nk BK766 hb
         have ⟨NB772_814, NB814_772⟩ := nn BK772 hg
         replace BK772 := nk BK772 hb
         clear hb hbox hg
         refine hK.out _ _ ⟨ec BK772, ec BK772, ec BK766, ec BK766, HS4_, HS5_, HS6_, HS7_⟩ (fun hHeld => ?_)
         clear hK K
         refine nm (some 71) ?_
         exact norm_ (by simp only [putAll, Act.put, List.setIfInBounds_toArray, List.set_cons_zero, List.set_cons_succ]) (hCont (v811, gb814) _ ⟨hHeld, (by (with_reducible repeat (first | apply Kd.R_alloc | apply Kd.R_drewN | apply Kd.R_drew)); exact Kd.R_mono HO812.out (fun _ hk => ⟨hk.1.2, hk.2⟩)), (by (with_reducible repeat (first | apply Kd.R_alloc | apply Kd.R_drewN | apply Kd.R_drew)); exact Kd.R_mono HO_767001.out (fun _ hk => ⟨hk.2, hk.1⟩)), (by (with_reducible repeat (first | apply Kd.R_alloc | apply Kd.R_drewN | apply Kd.R_drew)); exact Kd.R_mono HO_773001.out (fun _ hk => ⟨hk.2, hk.1⟩)), (pk BK766), (pk BK772), (pk BK814), GW814.out, GE814.out, NB766_814.out, NB814_766.out, NB772_814.out, NB814_772.out, bw⟩)
        ·skip
         refine box_step ?hg (N := 71) ?hd (cs := #[.int .i64 0, .slice none 0 0]) (t := 28) ?hr ?_; (case hd => rfl); (case hg => rfl); (case hr => first | (go_simp; done) | (go_simp; rfl))
         intro gb814 hg w313 hbox hb
         have HS4_ := (hb.cell (World.block_lt_of_cell? _ _ (hHeld.2.2.2.2.1))).trans (hHeld.2.2.2.2.1)
         have HS5_ := (hb.cell (World.block_lt_of_cell? _ _ (hHeld.2.2.2.2.2.1))).trans (hHeld.2.2.2.2.2.1)
         have HS6_ := (hb.cell (World.block_lt_of_cell? _ _ (hHeld.2.2.2.2.2.2.1))).trans (hHeld.2.2.2.2.2.2.1)
         have HS7_ := (hb.cell (World.block_lt_of_cell? _ _ (hHeld.2.2.2.2.2.2.2))).trans (hHeld.2.2.2.2.2.2.2)
         replace HO_767001 := rl HO_767001 hb
         replace HO_773001 := rl HO_773001 hb
         have BK814 := Aside0.mk (hbox)
         have GW814 := gs hg
         have GE814 := gs hg
         replace HB := bs hb
         have ⟨NB766_814, NB814_766⟩ := nn BK766 hg
         replace BK766 := nk BK766 hb
         have ⟨NB772_814, NB814_772⟩ := nn BK772 hg
         replace BK772 := nk BK772 hb
         clear hb hbox hg
         refine hK.out _ _ ⟨ec BK772, ec BK772, ec BK766, ec BK766, HS4_, HS5_, HS6_, HS7_⟩ (fun hHeld => ?_)
         clear hK K
         refine nm (some 71) ?_
         refine one_ (i := 6) (N := some 478) (tb 13 1151) rfl rfl (one_of HT_.out (by kernel_rfl)) (by decide) (fun K hK => ?_)
         refine go1 Tryz.func23 #[.agg #[.int .i64 t767, .slice Ao209 t768.length co209], .agg #[.int .i64 ((rd_T37 t762 t765).f0), .int .i64 ((rd_T37 t762 t765).f1), .int .i64 ((rd_T37 t762 t765).f2), .int .i64 ((rd_T37 t762 t765).f3)]] ?_
         with_reducible refine (impl_AddClue.calls kj301 t767 _ _ t768 ((rd_T37 t762 t765).f0) ((rd_T37 t762 t765).f1) ((rd_T37 t762 t765).f2) ((rd_T37 t762 t765).f3) t809 t810 true _ ?side1 ?side2 A309.out).mono ?_
         (case side1 => exact rr HO_773001)
         (case side2 => exact rn HO_773001)
         rintro e w314 ⟨v811, rfl, ho0, hb⟩
         have HS4_ := (hb.cell (World.block_lt_of_cell? _ _ (hHeld.2.2.2.2.1))).trans (hHeld.2.2.2.2.1)
         have HS5_ := (hb.cell (World.block_lt_of_cell? _ _ (hHeld.2.2.2.2.2.1))).trans (hHeld.2.2.2.2.2.1)
         have HS6_ := (hb.cell (World.block_lt_of_cell? _ _ (hHeld.2.2.2.2.2.2.1))).trans (hHeld.2.2.2.2.2.2.1)
         have HS7_ := (hb.cell (World.block_lt_of_cell? _ _ (hHeld.2.2.2.2.2.2.2))).trans (hHeld.2.2.2.2.2.2.2)
         refine ⟨_, rfl, ?_⟩
         have HO812 := Aside0.mk (Kd.R_lower (Kd.R_new' (Kd.R_new' ho0 (Kd.R_lt (pr HO_767001))) (Kd.R_lt (pr HO_773001))) (below_size bw))
         replace HO_767001 := re HO_767001 ho0 hb
         replace HO_773001 := re HO_773001 ho0 hb
         replace BK766 := nk BK766 hb
         replace BK772 := nk BK772 hb
         replace BK814 := nk BK814 hb
         replace HB := bs hb
         (try clear hb)
         (try clear ho0)
         refine hK.out _ _ ⟨ec BK772, ec BK772, ec BK766, ec BK766, HS4_, HS5_, HS6_, HS7_⟩ (fun hHeld => ?_)
         clear hK K
         refine nm (some 478) ?_
         refine pu 7 (some 471) (tb 13 1279) ?_
         refine pu 8 (some 479) (tb 13 1535) ?_
         refine pu 9 (some 480) (tb 13 2047) ?_
         exact norm_ (by simp only [putAll, Act.put, List.setIfInBounds_toArray, List.set_cons_zero, List.set_cons_succ]) (hCont (v811, gb814) _ ⟨hHeld, (by (with_reducible repeat (first | apply Kd.R_alloc | apply Kd.R_drewN | apply Kd.R_drew)); exact Kd.R_mono HO812.out (fun _ hk => ⟨hk.1.2, hk.2⟩)), (by (with_reducible repeat (first | apply Kd.R_alloc | apply Kd.R_drewN | apply Kd.R_drew)); exact Kd.R_mono HO_767001.out (fun _ hk => ⟨hk.2, hk.1⟩)), (by (with_reducible repeat (first | apply Kd.R_alloc | apply Kd.R_drewN | apply Kd.R_drew)); exact Kd.R_mono HO_773001.out (fun _ hk => ⟨hk.2, hk.1⟩)), (pk BK766), (pk BK772), (pk BK814), GW814.out, GE814.out, NB766_814.out, NB814_766.out, NB772_814.out, NB814_772.out, bw⟩)
       rintro ⟨v811, gb814⟩ w315 ⟨hS_, h0_, h1_, h2_, h3_, h4_, h5_, h6_, h7_, h8_, h9_, h10_, h11_, h12_⟩
       have n0_ : Aside0 (Kd.R k37 37 w315 w.heap.size (fun k_ => some k_ ≠ (.slice (some ad808) t762.length co200 : Value).ownBlock ∧ some k_ ≠ (.slice Ao209 t768.length co209 : Value).ownBlock) v811 t810) := ⟨h0_⟩
       have n1_ : Aside0 (Kd.R k37 37 w315 w.heap.size (fun k_ => some k_ ≠ (v811 : Value).ownBlock ∧ some k_ ≠ (.slice Ao209 t768.length co209 : Value).ownBlock) (.slice (some ad808) t762.length co200) t762) := ⟨h1_⟩
       have n2_ : Aside0 (Kd.R k37 37 w315 w.heap.size (fun k_ => some k_ ≠ (v811 : Value).ownBlock ∧ some k_ ≠ (.slice (some ad808) t762.length co200 : Value).ownBlock) (.slice Ao209 t768.length co209) t768) := ⟨h2_⟩
       have n3_ : Aside0 (w315.heap[gb766]? = some (.cells #[.int .i64 t761, .slice (some ad808) t762.length co200] 28 (0, 0))) := ⟨h3_⟩
       have n4_ : Aside0 (w315.heap[gb772]? = some (.cells #[.int .i64 t767, .slice Ao209 t768.length co209] 28 (0, 0))) := ⟨h4_⟩
       have n5_ : Aside0 (w315.heap[gb814]? = some (.cells #[.int .i64 0, .slice none 0 0] 28 (0, 0))) := ⟨h5_⟩
       have n6_ : Aside0 (w.heap.size ≤ gb814) := ⟨h6_⟩
       have n7_ : Aside0 (w.heap.size ≤ gb814) := ⟨h7_⟩
       have n8_ : Aside0 (gb766 ≠ gb814) := ⟨h8_⟩
       have n9_ : Aside0 (gb814 ≠ gb766) := ⟨h9_⟩
       have n10_ : Aside0 (gb772 ≠ gb814) := ⟨h10_⟩
       have n11_ : Aside0 (gb814 ≠ gb772) := ⟨h11_⟩
       have n12_ : Aside0 (Below w.heap.size w w315) := ⟨h12_⟩
       clear HO_767001
       clear HO_773001
       clear BK766
       clear BK772
       clear HB
       clear h0_ h1_ h2_ h3_ h4_ h5_ h6_ h7_ h8_ h9_ h10_ h11_ h12_
       have HO812 := n0_
       have HO_767001 := n1_
       have HO_773001 := n2_
       have BK766 := n3_
       have BK772 := n4_
       have BK814 := n5_
       have GW814 := n6_
       have GE814 := n7_
       have NB766_814 := n8_
       have NB814_766 := n9_
       have NB772_814 := n10_
       have NB814_772 := n11_
       have HB := n12_
       clear n0_ n1_ n2_ n3_ n4_ n5_ n6_ n7_ n8_ n9_ n10_ n11_ n12_
       have hHeld : w315.cell? ⟨gb772, 0, none⟩ = some (.int .i64 t767) ∧ w315.cell? ⟨gb772, 1, none⟩ = some (.slice Ao209 t768.length co209) ∧ w315.cell? ⟨gb766, 0, none⟩ = some (.int .i64 t761) ∧ w315.cell? ⟨gb766, 1, none⟩ = some (.slice (some ad808) t762.length co200) ∧ w315.cell? (ad808.add ((t765).toNat * 4)) = some (.int .i64 ((rd_T37 t762 t765).f0)) ∧ w315.cell? ⟨(ad808.add ((t765).toNat * 4)).block, (ad808.add ((t765).toNat * 4)).off + 1, none⟩ = some (.int .i64 ((rd_T37 t762 t765).f1)) ∧ w315.cell? ⟨(ad808.add ((t765).toNat * 4)).block, (ad808.add ((t765).toNat * 4)).off + 2, none⟩ = some (.int .i64 ((rd_T37 t762 t765).f2)) ∧ w315.cell? ⟨(ad808.add ((t765).toNat * 4)).block, (ad808.add ((t765).toNat * 4)).off + 3, none⟩ = some (.int .i64 ((rd_T37 t762 t765).f3)) := hS_
       obtain ⟨Ao317, co317, eo317⟩ := Kd.R_slice HO812.out
       (first | subst eo317 | (injection eo317 with f1_ f2_ f3_; have f4_ := f1_.symm; have f5_ := f3_.symm; clear f1_ f2_ f3_; subst f4_; subst f5_))
       refine norm_ (a' := ?_) ?_ ?_
       rotate_left
       ·simp only [putAll, Act.put, List.setIfInBounds_toArray, List.set_cons_zero, List.set_cons_succ]
        rfl
       refine one_ (i := 11) (N := none) (tb 13 4095) rfl rfl (one_of HT_.out (by kernel_rfl)) (by decide) (fun K hK => ?_)
       have hs316 : w315.cell? ⟨gb814, 0, none⟩ = some (.int .i64 0) := ec BK814
       have hfs316 := blk_frozen BK814.out 0
       have hns316_0 := NB766_814.out
       have hns316_1 := NB772_814.out
       have hms316_0 := NB814_766.out
       have hms316_1 := NB814_772.out
       have hs318 : w315.cell? ⟨gb814, 1, none⟩ = some (.slice none 0 0) := ec BK814
       have hfs318 := blk_frozen BK814.out 1
       have hns318_0 := NB766_814.out
       have hns318_1 := NB772_814.out
       have hms318_0 := NB814_766.out
       have hms318_1 := NB814_772.out
       refine skip_ (w1 := ?_) (by rfl) rfl ?_ ?_
       rotate_left
       ·go_simp
        rfl
       refine hK.out _ _ ⟨((cell_far (p := ⟨gb814, _, none⟩) NB772_814.out _).trans (((cell_far (p := ⟨gb814, _, none⟩) NB772_814.out _).trans (hHeld.1)))), ((cell_far (p := ⟨gb814, _, none⟩) NB772_814.out _).trans (((cell_far (p := ⟨gb814, _, none⟩) NB772_814.out _).trans (hHeld.2.1)))), ((cell_far (p := ⟨gb814, _, none⟩) NB766_814.out _).trans (((cell_far (p := ⟨gb814, _, none⟩) NB766_814.out _).trans (hHeld.2.2.1)))), ((cell_far (p := ⟨gb814, _, none⟩) NB766_814.out _).trans (((cell_far (p := ⟨gb814, _, none⟩) NB766_814.out _).trans (hHeld.2.2.2.1)))), ((cell_far (p := ⟨gb814, _, none⟩) (by first | exact Kd.own_blk (Kd.R_ne HO_767001.out BK814.out (by decide)) | (rw [add_block]; exact Kd.own_blk (Kd.R_ne HO_767001.out BK814.out (by decide))) | (show (Addr.add _ _).block ≠ _; rw [add_block]; exact Kd.own_blk (Kd.R_ne HO_767001.out BK814.out (by decide))) | (dsimp only; exact Kd.own_blk (Kd.R_ne HO_767001.out BK814.out (by decide)))) _).trans (((cell_far (p := ⟨gb814, _, none⟩) (by first | exact Kd.own_blk (Kd.R_ne HO_767001.out BK814.out (by decide)) | (rw [add_block]; exact Kd.own_blk (Kd.R_ne HO_767001.out BK814.out (by decide))) | (show (Addr.add _ _).block ≠ _; rw [add_block]; exact Kd.own_blk (Kd.R_ne HO_767001.out BK814.out (by decide))) | (dsimp only; exact Kd.own_blk (Kd.R_ne HO_767001.out BK814.out (by decide)))) _).trans (hHeld.2.2.2.2.1)))), ((cell_far (p := ⟨gb814, _, none⟩) (by first | exact Kd.own_blk (Kd.R_ne HO_767001.out BK814.out (by decide)) | (rw [add_block]; exact Kd.own_blk (Kd.R_ne HO_767001.out BK814.out (by decide))) | (show (Addr.add _ _).block ≠ _; rw [add_block]; exact Kd.own_blk (Kd.R_ne HO_767001.out BK814.out (by decide))) | (dsimp only; exact Kd.own_blk (Kd.R_ne HO_767001.out BK814.out (by decide)))) _).trans (((cell_far (p := ⟨gb814, _, none⟩) (by first | exact Kd.own_blk (Kd.R_ne HO_767001.out BK814.out (by decide)) | (rw [add_block]; exact Kd.own_blk (Kd.R_ne HO_767001.out BK814.out (by decide))) | (show (Addr.add _ _).block ≠ _; rw [add_block]; exact Kd.own_blk (Kd.R_ne HO_767001.out BK814.out (by decide))) | (dsimp only; exact Kd.own_blk (Kd.R_ne HO_767001.out BK814.out (by decide)))) _).trans (hHeld.2.2.2.2.2.1)))), ((cell_far (p := ⟨gb814, _, none⟩) (by first | exact Kd.own_blk (Kd.R_ne HO_767001.out BK814.out (by decide)) | (rw [add_block]; exact Kd.own_blk (Kd.R_ne HO_767001.out BK814.out (by decide))) | (show (Addr.add _ _).block ≠ _; rw [add_block]; exact Kd.own_blk (Kd.R_ne HO_767001.out BK814.out (by decide))) | (dsimp only; exact Kd.own_blk (Kd.R_ne HO_767001.out BK814.out (by decide)))) _).trans (((cell_far (p := ⟨gb814, _, none⟩) (by first | exact Kd.own_blk (Kd.R_ne HO_767001.out BK814.out (by decide)) | (rw [add_block]; exact Kd.own_blk (Kd.R_ne HO_767001.out BK814.out (by decide))) | (show (Addr.add _ _).block ≠ _; rw [add_block]; exact Kd.own_blk (Kd.R_ne HO_767001.out BK814.out (by decide))) | (dsimp only; exact Kd.own_blk (Kd.R_ne HO_767001.out BK814.out (by decide)))) _).trans (hHeld.2.2.2.2.2.2.1)))), ((cell_far (p := ⟨gb814, _, none⟩) (by first | exact Kd.own_blk (Kd.R_ne HO_767001.out BK814.out (by decide)) | (rw [add_block]; exact Kd.own_blk (Kd.R_ne HO_767001.out BK814.out (by decide))) | (show (Addr.add _ _).block ≠ _; rw [add_block]; exact Kd.own_blk (Kd.R_ne HO_767001.out BK814.out (by decide))) | (dsimp only; exact Kd.own_blk (Kd.R_ne HO_767001.out BK814.out (by decide)))) _).trans (((cell_far (p := ⟨gb814, _, none⟩) (by first | exact Kd.own_blk (Kd.R_ne HO_767001.out BK814.out (by decide)) | (rw [add_block]; exact Kd.own_blk (Kd.R_ne HO_767001.out BK814.out (by decide))) | (show (Addr.add _ _).block ≠ _; rw [add_block]; exact Kd.own_blk (Kd.R_ne HO_767001.out BK814.out (by decide))) | (dsimp only; exact Kd.own_blk (Kd.R_ne HO_767001.out BK814.out (by decide)))) _).trans (hHeld.2.2.2.2.2.2.2))))⟩ (fun hHeld => ?_)
       clear hK K
       refine pu 12 (some 72) (tb 13 8191) ?_
       refine done_ (done_of HT_.out (by kernel_rfl)) ?_
       have hnb319 := nb NB814_766
       have hnb320 := nb NB814_772
       have hz321 := z2 BK814
       have hnb322 := nb NB766_772
       have hz323 := z2 BK766
       try go_wp2_with (first | (go_at_call 8; (with_reducible refine (laws_vPuzzle.calls kj301 t809 _ _ t810 t761 _ _ t762 t815 _ ?side1 ?side2 ?side3 ?side4 A311.out).mono ?_); (case side1 => refine (Kd.R_reads' (e := 37) (base := w.heap.size) (ok := fun k_ => (some k_ ≠ (.slice (some ad808) t762.length co200 : Value).ownBlock ∧ some k_ ≠ (.slice Ao209 t768.length co209 : Value).ownBlock)) (n := t810.length) (c := co317) ?_).2.2; exact (qf HO812)); (case side2 => exact rn HO812); (case side3 => refine (Kd.R_reads' (e := 37) (base := w.heap.size) (ok := fun k_ => (some k_ ≠ (.slice Ao317 t810.length co317 : Value).ownBlock ∧ some k_ ≠ (.slice Ao209 t768.length co209 : Value).ownBlock)) (n := t762.length) (c := co200) ?_).2.2; exact (qf HO_767001)); (case side4 => exact rn HO_767001); rintro e w324 ⟨rfl, hb⟩; replace HO_767001 := Aside0.mk (Kd.R_below (qf HO_767001) hb); replace HO_773001 := Aside0.mk (Kd.R_below (qf HO_773001) hb); replace HO812 := Aside0.mk (Kd.R_below (qf HO812) hb); replace BK766 := nf BK766 hb; replace BK772 := nf BK772 hb; replace BK814 := Aside0.mk (blk_below (g := gb814) (o := .cells #[.int .i64 t809, .slice Ao317 t810.length co317] 28 (0, 0)) (pz BK814) hb); replace HB := bs hb; (try clear hb)))
       go_ret
       exact ⟨rs, bw⟩
      replace c306 := Bool.eq_false_iff.mpr c306
      subst c306
      rw [if_neg (show ¬ (false = true) by decide)] at H
      obtain rfl := Option.some.inj H
      go_wp2
      go_ret
      exact ⟨rs, bw⟩

set_option maxHeartbeats 80000000 in
set_option maxRecDepth 100000 in
theorem laws_FnRowsHidden.r3
 {k : Nat}
 {A0 : Option Addr}
 {c0 : Nat}
 {l0 : List Int}
 {A1 : Option Addr}
 {c1 : Nat}
 {l1 : List Int}
 {r : Bool}
 {w : World}
 (HR1 : Aside0 (Kd.C (Kd.int IntKind.u8) w A1 (List.length l1) l1))
 (HC1 : Aside0 (List.length l1 ≤ c1))
 (HRT : Aside0 (r = true))
 (HMM : Aside0 (Dr.Tab w))
 {t660 : ByteArray}
 {t661 t662 t663 : Int}
 {t664 : List S37}
 {t667 : Bool}
 {t669 : Int}
 {t670 : List S37}
 {t673 : Bool}
 {gb668 : Nat}
 {Ao16 : Option Addr}
 {co16 gb674 : Nat}
 {Ao21 : Option Addr}
 {co21 : Nat}
 {u12 u13 u14 u15 u16 u17 u18 u19 u20 u21 u22 u23 u24 u25 u26 u27 u28 u29 u30 u31 u33 u34 u35 u75 u88 u92 u93 u94 u95 u96 u97 u98 u99 u100 u101 u102 u103 u104 u105 u106 u107 u108 u109 u110 u111 u112 u113 u114 u115 u116 u117 u118 u119 u120 u121 u122 u123 u124 u125 u126 u127 u128 u129 u130 u131 u132 u133 u134 u135 u136 u137 u138 u139 u140 u141 u142 u143 u144 u145 u146 u147 u148 u149 u150 u151 u152 u153 u154 u155 u156 u157 u158 u159 u160 u161 u162 u163 u164 u165 u166 u167 u168 u169 u170 u171 u172 u173 u174 u175 u176 u177 u178 u179 u180 u181 u182 u183 u184 u185 u186 u187 u188 u189 u190 u191 u192 u193 u194 u195 u196 u197 u198 u199 u200 u201 u202 u203 u204 u205 u206 u207 u208 u209 u210 u212 u213 u214 u215 u216 u229 u230 u231 u232 u233 u234 u235 u236 u237 u238 u239 u248 : Value}
 {kj10 : Nat}
 (HJ10 : Aside0 (kj10 + 1 ≤ k))
 {t706 : Int}
 {t707 : List S37}
 {t711 : Int}
 {t712 : List S37}
 {t715 t721 t723 t724 : Bool}
 {gb710 : Nat}
 {Ao104 : Option Addr}
 {co104 gb716 : Nat}
 {Ao109 : Option Addr}
 {co109 gb722 : Nat}
 {u211 u217 u218 u219 u220 u221 u222 u223 u252 u253 u254 u256 u257 u258 u259 u261 u262 u263 : Value}
 {kj99 : Nat}
 (HJ99 : Aside0 (kj99 + 1 ≤ kj10))
 {wc : World}
 {u4 u43 u44 u45 u46 u47 u48 u224 u225 u226 u227 u228 u240 u241 u242 u243 u244 u245 u246 u247 u255 u260 u264 u265 u266 u267 u268 u269 u270 u271 u272 u273 u274 u275 u276 u277 u278 u279 u280 u281 u282 u283 u284 u285 u286 u287 u288 u289 u290 u291 u292 u293 u294 u295 u296 u297 u298 u299 u300 u301 u302 u303 u304 u305 u306 u307 u308 u309 u310 u311 u312 u313 u314 u315 u316 u317 u318 u319 u320 u321 u322 u323 u324 u325 u326 u327 u328 : Value}
 {kq : Nat}
 (HA : Aside0 (j5 kq l1 = some r))
 (HJ135 : Aside0 (kq ≤ kj99))
 (HB : Aside0 (Below (Array.size w.heap) w wc)) :
 Code.wp Tryz.prog (cdd Tryz.f3 [1, 1, 1, 1, 1, 1, 1, 1, 1, 1, 1, 1, 1]) (bodyPost Tryz.prog Tryz.f3 fun e w' => e = Ending.returned (Value.bool r) ∧ Below (Array.size w.heap) w w') { tmps := #[Value.slice A0 (List.length l0) c0, Value.slice A1 (List.length l1) c1, undef, undef, u4, Value.string t660, Value.int IntKind.i64 t661, Value.int IntKind.i64 t662, Value.pointer (some { block := gb668, off := 0 }), Value.bool t667, Value.pointer (some { block := gb674, off := 0 }), Value.bool t673, u12, u13, u14, u15, u16, u17, u18, u19, u20, u21, u22, u23, u24, u25, u26, u27, u28, u29, u30, u31, undef, u33, u34, u35, Value.pointer (some { block := gb710, off := 0 }), Value.pointer (some { block := gb716, off := 0 }), Value.bool t715, Value.pointer (some { block := gb722, off := 0 }), Value.bool t721, Value.bool t723, Value.bool t724, u43, u44, u45, u46, u47, u48, undef, undef, undef, undef, undef, undef, undef, undef, undef, undef, undef, undef, undef, undef, undef, undef, undef, undef, undef, undef, undef, undef, undef, undef, Value.slice A0 (List.length l0) c0, Value.slice A1 (List.length l1) c1, u75, Value.tuple #[Value.string t660, Value.int IntKind.i64 t661, Value.int IntKind.i64 t662], Value.slice A0 (List.length l0) c0, Value.tuple #[Value.string t660, Value.int IntKind.i64 t661, Value.int IntKind.i64 t662], Value.string t660, Value.int IntKind.i64 t661, Value.int IntKind.i64 t662, Value.tuple #[Value.agg #[Value.int IntKind.i64 t663, Value.slice Ao16 (List.length t664) co16], Value.bool t667], Value.string t660, Value.int IntKind.i64 t661, Value.int IntKind.i64 t662, Value.tuple #[Value.agg #[Value.int IntKind.i64 t663, Value.slice Ao16 (List.length t664) co16], Value.bool t667], Value.agg #[Value.int IntKind.i64 t663, Value.slice Ao16 (List.length t664) co16], u88, Value.tuple #[Value.agg #[Value.int IntKind.i64 t669, Value.slice Ao21 (List.length t670) co21], Value.bool t673], Value.string t660, Value.int IntKind.i64 t661, u92, u93, u94, u95, u96, u97, u98, u99, u100, u101, u102, u103, u104, u105, u106, u107, u108, u109, u110, u111, u112, u113, u114, u115, u116, u117, u118, u119, u120, u121, u122, u123, u124, u125, u126, u127, u128, u129, u130, u131, u132, u133, u134, u135, u136, u137, u138, u139, u140, u141, u142, u143, u144, u145, u146, u147, u148, u149, u150, u151, u152, u153, u154, u155, u156, u157, u158, u159, u160, u161, u162, u163, u164, u165, u166, u167, u168, u169, u170, u171, u172, u173, u174, u175, u176, u177, u178, u179, u180, u181, u182, u183, u184, u185, u186, u187, u188, u189, u190, u191, u192, u193, u194, u195, u196, u197, u198, u199, u200, u201, u202, u203, u204, u205, u206, u207, u208, u209, u210, u211, u212, u213, u214, u215, u216, u217, u218, u219, u220, u221, u222, u223, u224, u225, u226, u227, u228, u229, u230, u231, u232, u233, u234, u235, u236, u237, u238, u239, u240, u241, u242, u243, u244, u245, u246, u247, u248, Value.slice A1 (List.length l1) c1, Value.agg #[Value.int IntKind.i64 t706, Value.slice Ao104 (List.length t707) co104], Value.tuple #[Value.agg #[Value.int IntKind.i64 t711, Value.slice Ao109 (List.length t712) co109], Value.bool t715], u252, u253, u254, u255, u256, u257, u258, u259, u260, u261, u262, u263, u264, u265, u266, u267, u268, u269, u270, u271, u272, u273, u274, u275, u276, u277, u278, u279, u280, u281, u282, u283, u284, u285, u286, u287, u288, u289, u290, u291, u292, u293, u294, u295, u296, u297, u298, u299, u300, u301, u302, u303, u304, u305, u306, u307, u308, u309, u310, u311, u312, u313, u314, u315, u316, u317, u318, u319, u320, u321, u322, u323, u324, u325, u326, u327, u328, undef, undef, undef, undef, undef, undef, undef, undef, undef, undef, undef, undef, undef, undef, undef, undef, undef, undef, undef, undef, undef, undef, undef, undef, undef, undef, undef, undef, undef, undef, undef, undef, undef, undef, undef, undef, undef, undef, undef, undef, undef, undef, undef, undef, undef, undef, undef, undef, undef, undef, undef, undef, undef, undef, undef, undef, undef, undef, undef, undef, undef, undef, undef, undef, undef, undef, undef, undef, undef, undef, undef, undef, undef, undef, undef, undef, undef, undef, undef, undef, undef, undef, undef, undef, undef, undef, undef, undef, undef, undef, undef, undef, undef, undef, undef, undef, undef, undef, undef, undef, undef, undef, undef, undef, undef, undef, undef, undef, undef, undef, undef, undef, undef, undef, undef, undef, undef, undef, undef, undef, undef, undef, undef, undef, undef, undef, undef, undef, undef, undef, undef, undef, undef, undef, undef, undef, undef, undef, undef, undef, undef, undef, undef, undef, undef, undef, undef, undef, undef, undef, undef, undef, undef, undef, undef, undef, undef, undef], defers := [] } wc := by
 conv in cdd _ _ => whnf
 try dsimp only
 cases kq with
 | zero => exact absurd HA.out (by simp [laws_FnRowsHidden.j5])
 | succ kj135 =>
  have H := HA.out
  clear HA
  simp only [laws_FnRowsHidden.j5] at H
  replace H := ob H
  obtain ⟨⟨t739, t740, t743, t744, t745, t746⟩, A160, H⟩ := H
  (try dsimp only at H)
  replace H := ob H
  obtain ⟨⟨t749, t750, t753⟩, A161, H⟩ := H
  (try dsimp only at H)
  replace H := ob H
  obtain ⟨⟨t755, t756, t759⟩, A162, H⟩ := H
  (try dsimp only at H)
  replace H := ob H
  obtain ⟨⟨t761, t762, t765⟩, A163, H⟩ := H
  (try dsimp only at H)
  replace H := ob H
  obtain ⟨⟨t767, t768, t771⟩, A164, H⟩ := H
  (try dsimp only at H)
  replace H := ob H
  obtain ⟨⟨t773, t774, t777⟩, A165, H⟩ := H
  (try dsimp only at H)
  replace H := ob H
  obtain ⟨⟨t779, t780, t781, t782, t783⟩, A166, H⟩ := H
  (try dsimp only at H)
  replace H := ob H
  obtain ⟨⟨t785, t786⟩, A167, H⟩ := H
  (try dsimp only at H)
  replace H := ob H
  obtain ⟨⟨t787, t788⟩, A168, H⟩ := H
  (try dsimp only at H)
  replace H := ob H
  obtain ⟨⟨t789, t790, t791, t792, t793⟩, A169, H⟩ := H
  (try dsimp only at H)
  have HC170 := Aside0.mk H
  clear H
  go_upto_region 62 with (first | ((with_reducible refine gc 22 ?_); refine gl (some 331) Tryz.func22 #[.slice A1 l1.length c1] ?_; (with_reducible refine (spec_DrawAddClue.calls kj135 _ _ l1 t739 t740 t743 t744 t745 t746 _ ?_ ?_ A160.out).mono ?_); exact cb HR1; exact HC1.out; rintro e w171 ⟨v741, rfl, ho0, hb⟩; refine ⟨_, rfl, ?_⟩; have HO742 := Aside0.mk (Kd.R_lower ho0 (below_size bw)); replace HB := bs hb; (try clear hb); (try clear ho0)) | ((with_reducible refine gd 49 ?_); (try (refine gate_guard (by rfl) ?_; dsimp only)); refine bx 49 28 #[.int .i64 0, .slice none 0 0] ?_; intro gb747 hg w172 hbox hb; replace HO742 := rl HO742 hb; have BK747 := hbox; have GW747 := gs hg; have GE747 := gs hg; replace HB := bs hb; clear hb hbox hg) | ((with_reducible refine gd 50 ?_); (try (refine gate_guard (by rfl) ?_; dsimp only)); refine bx 50 37 #[.int .i64 0, .int .i64 0, .int .i64 0, .int .i64 0] ?_; intro gb748 hg w173 hbox hb; replace HO742 := Aside0.mk (Kd.R_below (Kd.R_elderB (pr HO742) gb748 (Nat.le_of_eq hg.symm)) hb); have BK748 := hbox; have GW748 := gs hg; have GE748 := gs hg; replace HB := bs hb; have ⟨NB747_748, NB748_747⟩ := nn BK747 hg; replace BK747 := nk BK747 hb; clear hb hbox hg; have hnb174 := nb NB747_748; have hz175 := z2 BK747; obtain ⟨Ao176, co176, eo176⟩ := Kd.R_slice HO742.out; subst eo176; have hz177 := z4 BK748) | ((with_reducible refine gc 23 ?_); refine gl (some 337) Tryz.func23 #[.agg #[.int .i64 t739, .slice Ao176 t740.length co176], .agg #[.int .i64 t743, .int .i64 t744, .int .i64 t745, .int .i64 t746]] ?_; (with_reducible refine (impl_AddClue.calls kj135 t739 _ _ t740 t743 t744 t745 t746 t749 t750 t753 _ ?side1 ?side2 A161.out).mono ?_); (case side1 => refine (Kd.R_reads' (e := 37) (base := w.heap.size) (ok := fun k_ => (True ∧ k_ ≠ gb748)) (n := t740.length) (c := co176) ?_).2.2; exact (by (with_reducible repeat (first | apply Kd.R_alloc | apply Kd.R_drewN | apply Kd.R_drew)); exact (Kd.R_mono (Kd.R_mono (Kd.R_far (p := ⟨gb748, 3, none⟩) (Kd.R_far (p := ⟨gb748, 2, none⟩) (Kd.R_far (p := ⟨gb748, 1, none⟩) (Kd.R_far (p := ⟨gb748, 0, none⟩) (Kd.R_far (p := ⟨gb747, 1, none⟩) (Kd.R_far (p := ⟨gb747, 0, none⟩) (Kd.R_mono (Kd.R_types HO742.out BK747.out (by decide)) (fun k_ hk => (⟨hk, hk.1.2⟩ : _ ∧ k_ ≠ gb748))) (fun _ hk => hk.1.2) (.int .i64 t739)) (fun _ hk => hk.1.2) (.slice Ao176 t740.length co176)) (fun _ hk => hk.2) (.int .i64 t743)) (fun _ hk => hk.2) (.int .i64 t744)) (fun _ hk => hk.2) (.int .i64 t745)) (fun _ hk => hk.2) (.int .i64 t746)) (fun _ h_ => h_.1)) (fun _ h_ => h_.1)))); (case side2 => exact rn HO742); rintro e w178 ⟨v751, rfl, ho0, hb⟩; refine ⟨_, rfl, ?_⟩; have HO752 := Aside0.mk (Kd.R_lower (Kd.R_newB (Kd.R_new' ho0 (Kd.R_lt (by (with_reducible repeat (first | apply Kd.R_alloc | apply Kd.R_drewN | apply Kd.R_drew)); exact (Kd.R_mono (Kd.R_mono (Kd.R_far (p := ⟨gb748, 3, none⟩) (Kd.R_far (p := ⟨gb748, 2, none⟩) (Kd.R_far (p := ⟨gb748, 1, none⟩) (Kd.R_far (p := ⟨gb748, 0, none⟩) (Kd.R_far (p := ⟨gb747, 1, none⟩) (Kd.R_far (p := ⟨gb747, 0, none⟩) (Kd.R_mono (Kd.R_types HO742.out BK747.out (by decide)) (fun k_ hk => (⟨hk, hk.1.2⟩ : _ ∧ k_ ≠ gb748))) (fun _ hk => hk.1.2) (.int .i64 t739)) (fun _ hk => hk.1.2) (.slice Ao176 t740.length co176)) (fun _ hk => hk.2) (.int .i64 t743)) (fun _ hk => hk.2) (.int .i64 t744)) (fun _ hk => hk.2) (.int .i64 t745)) (fun _ hk => hk.2) (.int .i64 t746)) (fun _ h_ => h_.1)) (fun _ h_ => h_.1))))) (g := gb748) (o := .cells #[.int .i64 t743, .int .i64 t744, .int .i64 t745, .int .i64 t746] 37 (0, 0)) (pz BK748)) (below_size bw)); replace HO742 := Aside0.mk (Kd.R_elder' (by (with_reducible repeat (first | apply Kd.R_alloc | apply Kd.R_drewN | apply Kd.R_drew)); exact (Kd.R_mono (Kd.R_mono (Kd.R_far (p := ⟨gb748, 3, none⟩) (Kd.R_far (p := ⟨gb748, 2, none⟩) (Kd.R_far (p := ⟨gb748, 1, none⟩) (Kd.R_far (p := ⟨gb748, 0, none⟩) (Kd.R_far (p := ⟨gb747, 1, none⟩) (Kd.R_far (p := ⟨gb747, 0, none⟩) (Kd.R_mono (Kd.R_types HO742.out BK747.out (by decide)) (fun k_ hk => (⟨hk, hk.1.2⟩ : _ ∧ k_ ≠ gb748))) (fun _ hk => hk.1.2) (.int .i64 t739)) (fun _ hk => hk.1.2) (.slice Ao176 t740.length co176)) (fun _ hk => hk.2) (.int .i64 t743)) (fun _ hk => hk.2) (.int .i64 t744)) (fun _ hk => hk.2) (.int .i64 t745)) (fun _ hk => hk.2) (.int .i64 t746)) (fun _ h_ => h_.1)) (fun _ h_ => h_.1))) (Kd.R_base ho0) hb); replace BK747 := Aside0.mk (blk_below (g := gb747) (o := .cells #[.int .i64 t739, .slice Ao176 t740.length co176] 28 (0, 0)) (pz BK747) hb); replace BK748 := Aside0.mk (blk_below (g := gb748) (o := .cells #[.int .i64 t743, .int .i64 t744, .int .i64 t745, .int .i64 t746] 37 (0, 0)) (pz BK748) hb); replace HB := bs hb; (try clear hb); (try clear ho0)) | ((with_reducible refine gd 51 ?_); (try (refine gate_guard (by rfl) ?_; dsimp only)); refine bx 51 28 #[.int .i64 0, .slice none 0 0] ?_; intro gb754 hg w179 hbox hb; replace HO742 := rl HO742 hb; replace HO752 := rl HO752 hb; have BK754 := hbox; have GW754 := gs hg; have GE754 := gs hg; replace HB := bs hb; have ⟨NB747_754, NB754_747⟩ := nn BK747 hg; replace BK747 := nk BK747 hb; have ⟨NB748_754, NB754_748⟩ := nn BK748 hg; replace BK748 := nk BK748 hb; clear hb hbox hg; have hnb180 := nb NB754_747; have hnb181 := nb NB754_748; have hz182 := z2 BK754; obtain ⟨Ao183, co183, eo183⟩ := Kd.R_slice HO752.out; subst eo183; have hz184 := z2 BK747; have hz185 := z4 BK748) | ((with_reducible refine gc 24 ?_); refine gl (some 343) Tryz.func24 #[.agg #[.int .i64 t739, .slice Ao176 t740.length co176], .agg #[.int .i64 t743, .int .i64 t744, .int .i64 t745, .int .i64 t746]] ?_; (with_reducible refine (spec_AddClue.calls kj135 t739 _ _ t740 t743 t744 t745 t746 t755 t756 t759 _ ?side1 ?side2 A162.out).mono ?_); (case side1 => refine (Kd.R_reads' (e := 37) (base := w.heap.size) (ok := fun k_ => ((True ∧ k_ ≠ gb748) ∧ some k_ ≠ (.slice Ao183 t750.length co183 : Value).ownBlock)) (n := t740.length) (c := co176) ?_).2.2; exact (qf HO742)); (case side2 => exact rn HO742); rintro e w186 ⟨v757, rfl, ho0, hb⟩; refine ⟨_, rfl, ?_⟩; have HO758 := Aside0.mk (Kd.R_lower (Kd.R_newB (Kd.R_new' (Kd.R_new' ho0 (Kd.R_lt (qf HO742))) (Kd.R_lt (qf HO752))) (pf BK748)) (below_size bw)); replace HO742 := Aside0.mk (Kd.R_elder' (qf HO742) (Kd.R_base ho0) hb); replace HO752 := Aside0.mk (Kd.R_elder' (qf HO752) (Kd.R_base ho0) hb); replace BK747 := nf BK747 hb; replace BK748 := nf BK748 hb; replace BK754 := Aside0.mk (blk_below (g := gb754) (o := .cells #[.int .i64 t749, .slice Ao183 t750.length co183] 28 (0, 0)) (pz BK754) hb); replace HB := bs hb; (try clear hb); (try clear ho0)) | ((with_reducible refine gd 53 ?_); (try (refine gate_guard (by rfl) ?_; dsimp only)); refine bx 53 28 #[.int .i64 0, .slice none 0 0] ?_; intro gb760 hg w187 hbox hb; replace HO742 := rl HO742 hb; replace HO752 := rl HO752 hb; replace HO758 := rl HO758 hb; have BK760 := hbox; have GW760 := gs hg; have GE760 := gs hg; replace HB := bs hb; have ⟨NB747_760, NB760_747⟩ := nn BK747 hg; replace BK747 := nk BK747 hb; have ⟨NB748_760, NB760_748⟩ := nn BK748 hg; replace BK748 := nk BK748 hb; have ⟨NB754_760, NB760_754⟩ := nn BK754 hg; replace BK754 := nk BK754 hb; clear hb hbox hg; have hnb188 := nb NB760_747; have hnb189 := nb NB760_748; have hnb190 := nb NB760_754; have hz191 := z2 BK760; obtain ⟨Ao192, co192, eo192⟩ := Kd.R_slice HO758.out; subst eo192) | ((with_reducible refine gc 25 ?_); refine gl (some 348) Tryz.func25 #[.slice A1 l1.length c1] ?_; (with_reducible refine (spec_DrawDropClue.calls kj135 _ _ l1 t761 t762 t765 _ ?_ ?_ A163.out).mono ?_); exact Kd.C_below HR1.out bw; exact HC1.out; rintro e w193 ⟨v763, rfl, ho0, hb⟩; refine ⟨_, rfl, ?_⟩; have HO764 := Aside0.mk (Kd.R_lower (Kd.R_newB (Kd.R_new' (Kd.R_new' (Kd.R_new' ho0 (Kd.R_lt (qf HO742))) (Kd.R_lt (qf HO752))) (Kd.R_lt (qf HO758))) (pf BK748)) (below_size bw)); replace HO742 := Aside0.mk (Kd.R_elder' (qf HO742) (Kd.R_base ho0) hb); replace HO752 := Aside0.mk (Kd.R_elder' (qf HO752) (Kd.R_base ho0) hb); replace HO758 := Aside0.mk (Kd.R_elder' (qf HO758) (Kd.R_base ho0) hb); replace BK747 := nf BK747 hb; replace BK748 := nf BK748 hb; replace BK754 := nf BK754 hb; replace BK760 := Aside0.mk (blk_below (g := gb760) (o := .cells #[.int .i64 t755, .slice Ao192 t756.length co192] 28 (0, 0)) (pz BK760) hb); replace HB := bs hb; (try clear hb); (try clear ho0)) | ((with_reducible refine gd 55 ?_); (try (refine gate_guard (by rfl) ?_; dsimp only)); refine bx 55 28 #[.int .i64 0, .slice none 0 0] ?_; intro gb766 hg w194 hbox hb; replace HO742 := rl HO742 hb; replace HO752 := rl HO752 hb; replace HO758 := rl HO758 hb; replace HO764 := rl HO764 hb; have BK766 := hbox; have GW766 := gs hg; have GE766 := gs hg; replace HB := bs hb; have ⟨NB747_766, NB766_747⟩ := nn BK747 hg; replace BK747 := nk BK747 hb; have ⟨NB748_766, NB766_748⟩ := nn BK748 hg; replace BK748 := nk BK748 hb; have ⟨NB754_766, NB766_754⟩ := nn BK754 hg; replace BK754 := nk BK754 hb; have ⟨NB760_766, NB766_760⟩ := nn BK760 hg; replace BK760 := nk BK760 hb; clear hb hbox hg; have hnb195 := nb NB766_747; have hnb196 := nb NB766_748; have hnb197 := nb NB766_754; have hnb198 := nb NB766_760; have hz199 := z2 BK766; obtain ⟨Ao200, co200, eo200⟩ := Kd.R_slice HO764.out; subst eo200) | ((with_reducible refine gc 26 ?_); refine gl (some 354) Tryz.func26 #[.agg #[.int .i64 t761, .slice Ao200 t762.length co200], .int .i64 t765] ?_; (with_reducible refine (impl_DropClue.calls kj135 t761 _ _ t762 t765 t767 t768 t771 _ ?side1 ?side2 A164.out).mono ?_); (case side1 => refine (Kd.R_reads' (e := 37) (base := w.heap.size) (ok := fun k_ => ((((True ∧ some k_ ≠ (.slice Ao176 t740.length co176 : Value).ownBlock) ∧ some k_ ≠ (.slice Ao183 t750.length co183 : Value).ownBlock) ∧ some k_ ≠ (.slice Ao192 t756.length co192 : Value).ownBlock) ∧ k_ ≠ gb748)) (n := t762.length) (c := co200) ?_).2.2; exact (qf HO764)); (case side2 => exact rn HO764); rintro e w201 ⟨v769, rfl, ho0, hb⟩; refine ⟨_, rfl, ?_⟩; have HO770 := Aside0.mk (Kd.R_lower (Kd.R_newB (Kd.R_new' (Kd.R_new' (Kd.R_new' (Kd.R_new' ho0 (Kd.R_lt (qf HO742))) (Kd.R_lt (qf HO752))) (Kd.R_lt (qf HO758))) (Kd.R_lt (qf HO764))) (pf BK748)) (below_size bw)); replace HO742 := Aside0.mk (Kd.R_elder' (qf HO742) (Kd.R_base ho0) hb); replace HO752 := Aside0.mk (Kd.R_elder' (qf HO752) (Kd.R_base ho0) hb); replace HO758 := Aside0.mk (Kd.R_elder' (qf HO758) (Kd.R_base ho0) hb); replace HO764 := Aside0.mk (Kd.R_elder' (qf HO764) (Kd.R_base ho0) hb); replace BK747 := nf BK747 hb; replace BK748 := nf BK748 hb; replace BK754 := nf BK754 hb; replace BK760 := nf BK760 hb; replace BK766 := Aside0.mk (blk_below (g := gb766) (o := .cells #[.int .i64 t761, .slice Ao200 t762.length co200] 28 (0, 0)) (pz BK766) hb); replace HB := bs hb; (try clear hb); (try clear ho0)) | ((with_reducible refine gd 57 ?_); (try (refine gate_guard (by rfl) ?_; dsimp only)); refine bx 57 28 #[.int .i64 0, .slice none 0 0] ?_; intro gb772 hg w202 hbox hb; replace HO742 := rl HO742 hb; replace HO752 := rl HO752 hb; replace HO758 := rl HO758 hb; replace HO764 := rl HO764 hb; replace HO770 := rl HO770 hb; have BK772 := hbox; have GW772 := gs hg; have GE772 := gs hg; replace HB := bs hb; have ⟨NB747_772, NB772_747⟩ := nn BK747 hg; replace BK747 := nk BK747 hb; have ⟨NB748_772, NB772_748⟩ := nn BK748 hg; replace BK748 := nk BK748 hb; have ⟨NB754_772, NB772_754⟩ := nn BK754 hg; replace BK754 := nk BK754 hb; have ⟨NB760_772, NB772_760⟩ := nn BK760 hg; replace BK760 := nk BK760 hb; have ⟨NB766_772, NB772_766⟩ := nn BK766 hg; replace BK766 := nk BK766 hb; clear hb hbox hg; have hnb203 := nb NB772_747; have hnb204 := nb NB772_748; have hnb205 := nb NB772_754; have hnb206 := nb NB772_760; have hnb207 := nb NB772_766; have hz208 := z2 BK772; obtain ⟨Ao209, co209, eo209⟩ := Kd.R_slice HO770.out; subst eo209; have hz210 := z2 BK766) | ((with_reducible refine gc 27 ?_); refine gl (some 360) Tryz.func27 #[.agg #[.int .i64 t761, .slice Ao200 t762.length co200], .int .i64 t765] ?_; (with_reducible refine (spec_DropClue.calls kj135 t761 _ _ t762 t765 t773 t774 t777 _ ?side1 ?side2 A165.out).mono ?_); (case side1 => refine (Kd.R_reads' (e := 37) (base := w.heap.size) (ok := fun k_ => (((((True ∧ some k_ ≠ (.slice Ao176 t740.length co176 : Value).ownBlock) ∧ some k_ ≠ (.slice Ao183 t750.length co183 : Value).ownBlock) ∧ some k_ ≠ (.slice Ao192 t756.length co192 : Value).ownBlock) ∧ k_ ≠ gb748) ∧ some k_ ≠ (.slice Ao209 t768.length co209 : Value).ownBlock)) (n := t762.length) (c := co200) ?_).2.2; exact (qf HO764)); (case side2 => exact rn HO764); rintro e w211 ⟨v775, rfl, ho0, hb⟩; refine ⟨_, rfl, ?_⟩; have HO776 := Aside0.mk (Kd.R_lower (Kd.R_newB (Kd.R_new' (Kd.R_new' (Kd.R_new' (Kd.R_new' (Kd.R_new' ho0 (Kd.R_lt (qf HO742))) (Kd.R_lt (qf HO752))) (Kd.R_lt (qf HO758))) (Kd.R_lt (qf HO764))) (Kd.R_lt (qf HO770))) (pf BK748)) (below_size bw)); replace HO742 := Aside0.mk (Kd.R_elder' (qf HO742) (Kd.R_base ho0) hb); replace HO752 := Aside0.mk (Kd.R_elder' (qf HO752) (Kd.R_base ho0) hb); replace HO758 := Aside0.mk (Kd.R_elder' (qf HO758) (Kd.R_base ho0) hb); replace HO764 := Aside0.mk (Kd.R_elder' (qf HO764) (Kd.R_base ho0) hb); replace HO770 := Aside0.mk (Kd.R_elder' (qf HO770) (Kd.R_base ho0) hb); replace BK747 := nf BK747 hb; replace BK748 := nf BK748 hb; replace BK754 := nf BK754 hb; replace BK760 := nf BK760 hb; replace BK766 := nf BK766 hb; replace BK772 := Aside0.mk (blk_below (g := gb772) (o := .cells #[.int .i64 t767, .slice Ao209 t768.length co209] 28 (0, 0)) (pz BK772) hb); replace HB := bs hb; (try clear hb); (try clear ho0)) | ((with_reducible refine gd 59 ?_); (try (refine gate_guard (by rfl) ?_; dsimp only)); refine bx 59 28 #[.int .i64 0, .slice none 0 0] ?_; intro gb778 hg w212 hbox hb; replace HO742 := rl HO742 hb; replace HO752 := rl HO752 hb; replace HO758 := rl HO758 hb; replace HO764 := rl HO764 hb; replace HO770 := rl HO770 hb; replace HO776 := rl HO776 hb; have BK778 := hbox; have GW778 := gs hg; have GE778 := gs hg; replace HB := bs hb; have ⟨NB747_778, NB778_747⟩ := nn BK747 hg; replace BK747 := nk BK747 hb; have ⟨NB748_778, NB778_748⟩ := nn BK748 hg; replace BK748 := nk BK748 hb; have ⟨NB754_778, NB778_754⟩ := nn BK754 hg; replace BK754 := nk BK754 hb; have ⟨NB760_778, NB778_760⟩ := nn BK760 hg; replace BK760 := nk BK760 hb; have ⟨NB766_778, NB778_766⟩ := nn BK766 hg; replace BK766 := nk BK766 hb; have ⟨NB772_778, NB778_772⟩ := nn BK772 hg; replace BK772 := nk BK772 hb; clear hb hbox hg; have hnb213 := nb NB778_747; have hnb214 := nb NB778_748; have hnb215 := nb NB778_754; have hnb216 := nb NB778_760; have hnb217 := nb NB778_766; have hnb218 := nb NB778_772; have hz219 := z2 BK778; obtain ⟨Ao220, co220, eo220⟩ := Kd.R_slice HO776.out; subst eo220) | ((with_reducible refine gc 28 ?_); refine gl (some 365) Tryz.func28 #[.slice A1 l1.length c1] ?_; (with_reducible refine (spec_DrawDoesFit.calls kj135 _ _ l1 t779 t780 t781 t782 t783 _ ?_ ?_ A166.out).mono ?_); exact Kd.C_below HR1.out bw; exact HC1.out; rintro e w221 ⟨rfl, hb⟩; refine ⟨_, rfl, ?_⟩; replace HO742 := Aside0.mk (Kd.R_below (qf HO742) hb); replace HO752 := Aside0.mk (Kd.R_below (qf HO752) hb); replace HO758 := Aside0.mk (Kd.R_below (qf HO758) hb); replace HO764 := Aside0.mk (Kd.R_below (qf HO764) hb); replace HO770 := Aside0.mk (Kd.R_below (qf HO770) hb); replace HO776 := Aside0.mk (Kd.R_below (qf HO776) hb); replace BK747 := nf BK747 hb; replace BK748 := nf BK748 hb; replace BK754 := nf BK754 hb; replace BK760 := nf BK760 hb; replace BK766 := nf BK766 hb; replace BK772 := nf BK772 hb; replace BK778 := Aside0.mk (blk_below (g := gb778) (o := .cells #[.int .i64 t773, .slice Ao220 t774.length co220] 28 (0, 0)) (pz BK778) hb); replace HB := bs hb; (try clear hb)) | ((with_reducible refine gd 61 ?_); (try (refine gate_guard (by rfl) ?_; dsimp only)); refine bx 61 37 #[.int .i64 0, .int .i64 0, .int .i64 0, .int .i64 0] ?_; intro gb784 hg w222 hbox hb; replace HO742 := Aside0.mk (Kd.R_below (Kd.R_elderB (pr HO742) gb784 (Nat.le_of_eq hg.symm)) hb); replace HO752 := Aside0.mk (Kd.R_below (Kd.R_elderB (pr HO752) gb784 (Nat.le_of_eq hg.symm)) hb); replace HO758 := Aside0.mk (Kd.R_below (Kd.R_elderB (pr HO758) gb784 (Nat.le_of_eq hg.symm)) hb); replace HO764 := Aside0.mk (Kd.R_below (Kd.R_elderB (pr HO764) gb784 (Nat.le_of_eq hg.symm)) hb); replace HO770 := Aside0.mk (Kd.R_below (Kd.R_elderB (pr HO770) gb784 (Nat.le_of_eq hg.symm)) hb); replace HO776 := Aside0.mk (Kd.R_below (Kd.R_elderB (pr HO776) gb784 (Nat.le_of_eq hg.symm)) hb); have BK784 := hbox; have GW784 := gs hg; have GE784 := gs hg; replace HB := bs hb; have ⟨NB747_784, NB784_747⟩ := nn BK747 hg; replace BK747 := nk BK747 hb; have ⟨NB748_784, NB784_748⟩ := nn BK748 hg; replace BK748 := nk BK748 hb; have ⟨NB754_784, NB784_754⟩ := nn BK754 hg; replace BK754 := nk BK754 hb; have ⟨NB760_784, NB784_760⟩ := nn BK760 hg; replace BK760 := nk BK760 hb; have ⟨NB766_784, NB784_766⟩ := nn BK766 hg; replace BK766 := nk BK766 hb; have ⟨NB772_784, NB784_772⟩ := nn BK772 hg; replace BK772 := nk BK772 hb; have ⟨NB778_784, NB784_778⟩ := nn BK778 hg; replace BK778 := nk BK778 hb; clear hb hbox hg; have hnb223 := nb NB784_747; have hnb224 := nb NB784_748; have hnb225 := nb NB784_754; have hnb226 := nb NB784_760; have hnb227 := nb NB784_766; have hnb228 := nb NB784_772; have hnb229 := nb NB784_778; have hz230 := z4 BK784) | ((with_reducible refine gc 10 ?_); refine gl (some 371) Tryz.func10 #[.agg #[.int .i64 t779, .int .i64 t780, .int .i64 t781, .int .i64 t782], .string t783] ?_; (with_reducible refine (impl_DoesFit.calls kj135 t779 t780 t781 t782 t783 t785 t786 _ ?_ A167.out).mono ?_); exact Dr.mm HMM; rintro e w231 ⟨rfl, hb⟩; refine ⟨_, rfl, ?_⟩; replace HO742 := Aside0.mk (Kd.R_below (by (with_reducible repeat (first | apply Kd.R_alloc | apply Kd.R_drewN | apply Kd.R_drew)); exact (Kd.R_mono (Kd.R_far (p := ⟨gb784, 3, none⟩) (Kd.R_far (p := ⟨gb784, 2, none⟩) (Kd.R_far (p := ⟨gb784, 1, none⟩) (Kd.R_far (p := ⟨gb784, 0, none⟩) (Kd.R_mono HO742.out (fun k_ hk => (⟨hk, hk.2⟩ : _ ∧ k_ ≠ gb784))) (fun _ hk => hk.2) (.int .i64 t779)) (fun _ hk => hk.2) (.int .i64 t780)) (fun _ hk => hk.2) (.int .i64 t781)) (fun _ hk => hk.2) (.int .i64 t782)) (fun _ h_ => h_.1))) hb); replace HO752 := Aside0.mk (Kd.R_below (by (with_reducible repeat (first | apply Kd.R_alloc | apply Kd.R_drewN | apply Kd.R_drew)); exact (Kd.R_mono (Kd.R_far (p := ⟨gb784, 3, none⟩) (Kd.R_far (p := ⟨gb784, 2, none⟩) (Kd.R_far (p := ⟨gb784, 1, none⟩) (Kd.R_far (p := ⟨gb784, 0, none⟩) (Kd.R_mono HO752.out (fun k_ hk => (⟨hk, hk.2⟩ : _ ∧ k_ ≠ gb784))) (fun _ hk => hk.2) (.int .i64 t779)) (fun _ hk => hk.2) (.int .i64 t780)) (fun _ hk => hk.2) (.int .i64 t781)) (fun _ hk => hk.2) (.int .i64 t782)) (fun _ h_ => h_.1))) hb); replace HO758 := Aside0.mk (Kd.R_below (by (with_reducible repeat (first | apply Kd.R_alloc | apply Kd.R_drewN | apply Kd.R_drew)); exact (Kd.R_mono (Kd.R_far (p := ⟨gb784, 3, none⟩) (Kd.R_far (p := ⟨gb784, 2, none⟩) (Kd.R_far (p := ⟨gb784, 1, none⟩) (Kd.R_far (p := ⟨gb784, 0, none⟩) (Kd.R_mono HO758.out (fun k_ hk => (⟨hk, hk.2⟩ : _ ∧ k_ ≠ gb784))) (fun _ hk => hk.2) (.int .i64 t779)) (fun _ hk => hk.2) (.int .i64 t780)) (fun _ hk => hk.2) (.int .i64 t781)) (fun _ hk => hk.2) (.int .i64 t782)) (fun _ h_ => h_.1))) hb); replace HO764 := Aside0.mk (Kd.R_below (by (with_reducible repeat (first | apply Kd.R_alloc | apply Kd.R_drewN | apply Kd.R_drew)); exact (Kd.R_mono (Kd.R_far (p := ⟨gb784, 3, none⟩) (Kd.R_far (p := ⟨gb784, 2, none⟩) (Kd.R_far (p := ⟨gb784, 1, none⟩) (Kd.R_far (p := ⟨gb784, 0, none⟩) (Kd.R_mono HO764.out (fun k_ hk => (⟨hk, hk.2⟩ : _ ∧ k_ ≠ gb784))) (fun _ hk => hk.2) (.int .i64 t779)) (fun _ hk => hk.2) (.int .i64 t780)) (fun _ hk => hk.2) (.int .i64 t781)) (fun _ hk => hk.2) (.int .i64 t782)) (fun _ h_ => h_.1))) hb); replace HO770 := Aside0.mk (Kd.R_below (by (with_reducible repeat (first | apply Kd.R_alloc | apply Kd.R_drewN | apply Kd.R_drew)); exact (Kd.R_mono (Kd.R_far (p := ⟨gb784, 3, none⟩) (Kd.R_far (p := ⟨gb784, 2, none⟩) (Kd.R_far (p := ⟨gb784, 1, none⟩) (Kd.R_far (p := ⟨gb784, 0, none⟩) (Kd.R_mono HO770.out (fun k_ hk => (⟨hk, hk.2⟩ : _ ∧ k_ ≠ gb784))) (fun _ hk => hk.2) (.int .i64 t779)) (fun _ hk => hk.2) (.int .i64 t780)) (fun _ hk => hk.2) (.int .i64 t781)) (fun _ hk => hk.2) (.int .i64 t782)) (fun _ h_ => h_.1))) hb); replace HO776 := Aside0.mk (Kd.R_below (by (with_reducible repeat (first | apply Kd.R_alloc | apply Kd.R_drewN | apply Kd.R_drew)); exact (Kd.R_mono (Kd.R_far (p := ⟨gb784, 3, none⟩) (Kd.R_far (p := ⟨gb784, 2, none⟩) (Kd.R_far (p := ⟨gb784, 1, none⟩) (Kd.R_far (p := ⟨gb784, 0, none⟩) (Kd.R_mono HO776.out (fun k_ hk => (⟨hk, hk.2⟩ : _ ∧ k_ ≠ gb784))) (fun _ hk => hk.2) (.int .i64 t779)) (fun _ hk => hk.2) (.int .i64 t780)) (fun _ hk => hk.2) (.int .i64 t781)) (fun _ hk => hk.2) (.int .i64 t782)) (fun _ h_ => h_.1))) hb); replace BK747 := nf BK747 hb; replace BK748 := nf BK748 hb; replace BK754 := nf BK754 hb; replace BK760 := nf BK760 hb; replace BK766 := nf BK766 hb; replace BK772 := nf BK772 hb; replace BK778 := nf BK778 hb; replace BK784 := Aside0.mk (blk_below (g := gb784) (o := .cells #[.int .i64 t779, .int .i64 t780, .int .i64 t781, .int .i64 t782] 37 (0, 0)) (pz BK784) hb); replace HB := bs hb; (try clear hb); have hz232 := z4 BK784) | ((with_reducible refine gc 29 ?_); refine gl (some 377) Tryz.func29 #[.agg #[.int .i64 t779, .int .i64 t780, .int .i64 t781, .int .i64 t782], .string t783] ?_; (with_reducible refine (spec_DoesFit.calls kj135 t779 t780 t781 t782 t783 t787 t788 _ A168.out).mono ?_); rintro e w233 ⟨rfl, hb⟩; refine ⟨_, rfl, ?_⟩; replace HO742 := rl HO742 hb; replace HO752 := rl HO752 hb; replace HO758 := rl HO758 hb; replace HO764 := rl HO764 hb; replace HO770 := rl HO770 hb; replace HO776 := rl HO776 hb; replace BK747 := nk BK747 hb; replace BK748 := nk BK748 hb; replace BK754 := nk BK754 hb; replace BK760 := nk BK760 hb; replace BK766 := nk BK766 hb; replace BK772 := nk BK772 hb; replace BK778 := nk BK778 hb; replace BK784 := nk BK784 hb; replace HB := bs hb; (try clear hb)) | ((with_reducible refine gc 30 ?_); refine gl (some 382) Tryz.func30 #[.slice A1 l1.length c1] ?_; (with_reducible refine (spec_DrawIsClue.calls kj135 _ _ l1 t789 t790 t791 t792 t793 _ ?_ ?_ A169.out).mono ?_); exact cb HR1; exact HC1.out; rintro e w234 ⟨rfl, hb⟩; refine ⟨_, rfl, ?_⟩; replace HO742 := rl HO742 hb; replace HO752 := rl HO752 hb; replace HO758 := rl HO758 hb; replace HO764 := rl HO764 hb; replace HO770 := rl HO770 hb; replace HO776 := rl HO776 hb; replace BK747 := nk BK747 hb; replace BK748 := nk BK748 hb; replace BK754 := nk BK754 hb; replace BK760 := nk BK760 hb; replace BK766 := nk BK766 hb; replace BK772 := nk BK772 hb; replace BK778 := nk BK778 hb; replace BK784 := nk BK784 hb; replace HB := bs hb; (try clear hb)) | ((with_reducible refine gd 68 ?_); (try (refine gate_guard (by rfl) ?_; dsimp only)); refine bx 68 37 #[.int .i64 0, .int .i64 0, .int .i64 0, .int .i64 0] ?_; intro gb794 hg w235 hbox hb; replace HO742 := Aside0.mk (Kd.R_below (Kd.R_elderB (pr HO742) gb794 (Nat.le_of_eq hg.symm)) hb); replace HO752 := Aside0.mk (Kd.R_below (Kd.R_elderB (pr HO752) gb794 (Nat.le_of_eq hg.symm)) hb); replace HO758 := Aside0.mk (Kd.R_below (Kd.R_elderB (pr HO758) gb794 (Nat.le_of_eq hg.symm)) hb); replace HO764 := Aside0.mk (Kd.R_below (Kd.R_elderB (pr HO764) gb794 (Nat.le_of_eq hg.symm)) hb); replace HO770 := Aside0.mk (Kd.R_below (Kd.R_elderB (pr HO770) gb794 (Nat.le_of_eq hg.symm)) hb); replace HO776 := Aside0.mk (Kd.R_below (Kd.R_elderB (pr HO776) gb794 (Nat.le_of_eq hg.symm)) hb); have BK794 := hbox; have GW794 := gs hg; have GE794 := gs hg; replace HB := bs hb; have ⟨NB747_794, NB794_747⟩ := nn BK747 hg; replace BK747 := nk BK747 hb; have ⟨NB748_794, NB794_748⟩ := nn BK748 hg; replace BK748 := nk BK748 hb; have ⟨NB754_794, NB794_754⟩ := nn BK754 hg; replace BK754 := nk BK754 hb; have ⟨NB760_794, NB794_760⟩ := nn BK760 hg; replace BK760 := nk BK760 hb; have ⟨NB766_794, NB794_766⟩ := nn BK766 hg; replace BK766 := nk BK766 hb; have ⟨NB772_794, NB794_772⟩ := nn BK772 hg; replace BK772 := nk BK772 hb; have ⟨NB778_794, NB794_778⟩ := nn BK778 hg; replace BK778 := nk BK778 hb; have ⟨NB784_794, NB794_784⟩ := nn BK784 hg; replace BK784 := nk BK784 hb; clear hb hbox hg; have hnb236 := nb NB794_747; have hnb237 := nb NB794_748; have hnb238 := nb NB794_754; have hnb239 := nb NB794_760; have hnb240 := nb NB794_766; have hnb241 := nb NB794_772; have hnb242 := nb NB794_778; have hnb243 := nb NB794_784; have hz244 := z4 BK794))
  (try simp only [Act.put, List.setIfInBounds_toArray, List.set_cons_zero, List.set_cons_succ])
  go_cut [327, 328, 339, 345, 356, 362, 371, 372, 373, 374, 375, 376, 377, 378, 379, 380, 381, 382, 383, 384, 433] from 9999 (fun _ _ _ _ _ _ _ _ _ _ _ _ _ _ _ _ _ _ _ _ v433 wc => ∃ (kq : Nat) (x433_169 : Bool), v433 = .bool x433_169 ∧ Aside0 (laws_FnRowsHidden.j6 kq t753 t765 t771 x433_169 t739 t740 t743 t744 t745 t746 t749 t750 t761 t762 t767 t768 = some r) ∧ Aside0 (kq ≤ kj135) ∧ Aside0 (Kd.R k37 37 wc w.heap.size (fun k_ => some k_ ≠ ((.slice Ao183 t750.length co183) : Value).ownBlock ∧ some k_ ≠ ((.slice Ao200 t762.length co200) : Value).ownBlock ∧ some k_ ≠ ((.slice Ao209 t768.length co209) : Value).ownBlock ∧ k_ ≠ gb748) (.slice Ao176 t740.length co176) t740) ∧ Aside0 (Kd.R k37 37 wc w.heap.size (fun k_ => some k_ ≠ ((.slice Ao176 t740.length co176) : Value).ownBlock ∧ some k_ ≠ ((.slice Ao200 t762.length co200) : Value).ownBlock ∧ some k_ ≠ ((.slice Ao209 t768.length co209) : Value).ownBlock ∧ k_ ≠ gb748) (.slice Ao183 t750.length co183) t750) ∧ Aside0 (Kd.R k37 37 wc w.heap.size (fun k_ => some k_ ≠ ((.slice Ao176 t740.length co176) : Value).ownBlock ∧ some k_ ≠ ((.slice Ao183 t750.length co183) : Value).ownBlock ∧ some k_ ≠ ((.slice Ao209 t768.length co209) : Value).ownBlock ∧ k_ ≠ gb748) (.slice Ao200 t762.length co200) t762) ∧ Aside0 (Kd.R k37 37 wc w.heap.size (fun k_ => some k_ ≠ ((.slice Ao176 t740.length co176) : Value).ownBlock ∧ some k_ ≠ ((.slice Ao183 t750.length co183) : Value).ownBlock ∧ some k_ ≠ ((.slice Ao200 t762.length co200) : Value).ownBlock ∧ k_ ≠ gb748) (.slice Ao209 t768.length co209) t768) ∧ Aside0 (wc.heap[gb747]? = some (.cells #[.int .i64 t739, (.slice Ao176 t740.length co176)] 28 (0, 0))) ∧ Aside0 (wc.heap[gb748]? = some (.cells #[.int .i64 t743, .int .i64 t744, .int .i64 t745, .int .i64 t746] 37 (0, 0))) ∧ Aside0 (wc.heap[gb754]? = some (.cells #[.int .i64 t749, (.slice Ao183 t750.length co183)] 28 (0, 0))) ∧ Aside0 (wc.heap[gb766]? = some (.cells #[.int .i64 t761, (.slice Ao200 t762.length co200)] 28 (0, 0))) ∧ Aside0 (wc.heap[gb772]? = some (.cells #[.int .i64 t767, (.slice Ao209 t768.length co209)] 28 (0, 0))) ∧ Aside0 (Below w.heap.size w wc))
  case first =>
   rename_i J4_ K4_ hJ4_ hM4_
   have H := HC170.out
   clear HC170
   by_cases c245 : (t753 != t759) = true
   ·rw [if_pos c245] at H
    have c245b0 : (t753 != t759) = true := c245
    (try (have c245b1 : decide (t753 = t759) = false := by simpa using c245))
    (try (have c245b2 : (t753 == t759) = false := by simpa using c245))
    (try (have c245b3 : ¬ (t753 = t759) := by simpa using c245))
    clear c245
    (first | rw [c245b0] | rw [@decide_eq_true _ _ (of_decide_eq_true c245b1)] | rw [@decide_eq_false _ _ (of_decide_eq_false c245b1)] | (simp only [i64_w, i32_w]; rw [c245b0]) | skip)
    exact absurd (Option.some.inj H) (by rw [HRT.out]; decide)
   rw [if_neg c245] at H
   have c245b0 : (t753 != t759) = false := by simpa using c245
   (try (have c245b1 : decide (t753 = t759) = true := by simpa using c245))
   (try (have c245b2 : (t753 == t759) = true := by simpa using c245))
   clear c245
   (first | rw [c245b0] | rw [@decide_eq_true _ _ (of_decide_eq_true c245b1)] | rw [@decide_eq_false _ _ (of_decide_eq_false c245b1)] | (simp only [i64_w, i32_w]; rw [c245b0]) | skip)
   replace H := ob H
   obtain ⟨t795, A246, H⟩ := H
   (try dsimp only at H)
   replace H := ofr HRT H
   obtain ⟨c247, H⟩ := H
   subst c247
   by_cases c248 : (t771 != t777) = true
   ·rw [if_pos c248] at H
    have c248b0 : (t771 != t777) = true := c248
    (try (have c248b1 : decide (t771 = t777) = false := by simpa using c248))
    (try (have c248b2 : (t771 == t777) = false := by simpa using c248))
    (try (have c248b3 : ¬ (t771 = t777) := by simpa using c248))
    clear c248
    exact absurd (Option.some.inj H) (by rw [HRT.out]; decide)
   rw [if_neg c248] at H
   have c248b0 : (t771 != t777) = false := by simpa using c248
   (try (have c248b1 : decide (t771 = t777) = true := by simpa using c248))
   (try (have c248b2 : (t771 == t777) = true := by simpa using c248))
   clear c248
   replace H := ob H
   obtain ⟨t796, A249, H⟩ := H
   (try dsimp only at H)
   replace H := ofr HRT H
   obtain ⟨c250, H⟩ := H
   subst c250
   by_cases c251 : (t786 != t788) = true
   ·rw [if_pos c251] at H
    have c251b0 : (t786 != t788) = true := c251
    (try (have c251b1 : decide (t786 = t788) = false := by simpa using c251))
    (try (have c251b2 : (t786 == t788) = false := by simpa using c251))
    (try (have c251b3 : ¬ (t786 = t788) := by simpa using c251))
    clear c251
    exact absurd (Option.some.inj H) (by rw [HRT.out]; decide)
   rw [if_neg c251] at H
   have c251b0 : (t786 != t788) = false := by simpa using c251
   (try (have c251b1 : decide (t786 = t788) = true := by simpa using c251))
   (try (have c251b2 : (t786 == t788) = true := by simpa using c251))
   clear c251
   by_cases c252 : (t785 != t787) = true
   ·rw [if_pos c252] at H
    have c252b0 : (t785 != t787) = true := c252
    (try (have c252b1 : decide (t785 = t787) = false := by simpa using c252))
    (try (have c252b2 : (t785 == t787) = false := by simpa using c252))
    (try (have c252b3 : ¬ (t785 = t787) := by simpa using c252))
    clear c252
    exact absurd (Option.some.inj H) (by rw [HRT.out]; decide)
   rw [if_neg c252] at H
   have c252b0 : (t785 != t787) = false := by simpa using c252
   (try (have c252b1 : decide (t785 = t787) = true := by simpa using c252))
   (try (have c252b2 : (t785 == t787) = true := by simpa using c252))
   clear c252
   replace H := ob H
   obtain ⟨t797, A253, H⟩ := H
   (try dsimp only at H)
   replace H := ob H
   obtain ⟨t798, A254, H⟩ := H
   (try dsimp only at H)
   by_cases c255 : (t797 != t798) = true
   ·rw [if_pos c255] at H
    have c255b0 : (t797 != t798) = true := c255
    (try (have c255b1 : decide (t797 = t798) = false := by simpa using c255))
    (try (have c255b2 : (t797 == t798) = false := by simpa using c255))
    (try (have c255b3 : ¬ (t797 = t798) := by simpa using c255))
    clear c255
    exact absurd (Option.some.inj H) (by rw [HRT.out]; decide)
   rw [if_neg c255] at H
   have c255b0 : (t797 != t798) = false := by simpa using c255
   (try (have c255b1 : decide (t797 = t798) = true := by simpa using c255))
   (try (have c255b2 : (t797 == t798) = true := by simpa using c255))
   clear c255
   by_cases c256 : t786 = true
   ·subst c256
    rw [if_pos rfl] at H
    replace H := ob H
    obtain ⟨t799, A257, H⟩ := H
    (try dsimp only at H)
    have H' := Aside0.mk H
    clear H
    try go_upto_region 62 with (fail)
    have n0_ : Aside0 (Kd.R k37 37 ((((w235.setCell ⟨gb794, 0, none⟩ (.int .i64 t790)).setCell ⟨gb794, 1, none⟩ (.int .i64 t791)).setCell ⟨gb794, 2, none⟩ (.int .i64 t792)).setCell ⟨gb794, 3, none⟩ (.int .i64 t793)) w.heap.size (fun k_ => some k_ ≠ (.slice Ao183 t750.length co183 : Value).ownBlock ∧ some k_ ≠ (.slice Ao192 t756.length co192 : Value).ownBlock ∧ some k_ ≠ (.slice Ao200 t762.length co200 : Value).ownBlock ∧ some k_ ≠ (.slice Ao209 t768.length co209 : Value).ownBlock ∧ some k_ ≠ (.slice Ao220 t774.length co220 : Value).ownBlock ∧ k_ ≠ gb748 ∧ k_ ≠ gb784 ∧ k_ ≠ gb794) (.slice Ao176 t740.length co176) t740) := ⟨by (with_reducible repeat (first | apply Kd.R_alloc | apply Kd.R_drewN | apply Kd.R_drew)); exact Kd.R_mono (Kd.R_far (p := ⟨gb794, 3, none⟩) (Kd.R_far (p := ⟨gb794, 2, none⟩) (Kd.R_far (p := ⟨gb794, 1, none⟩) (Kd.R_far (p := ⟨gb794, 0, none⟩) (Kd.R_mono HO742.out (fun k_ hk => (⟨hk, hk.2⟩ : _ ∧ k_ ≠ gb794))) (fun _ hk => hk.2) (.int .i64 t790)) (fun _ hk => hk.2) (.int .i64 t791)) (fun _ hk => hk.2) (.int .i64 t792)) (fun _ hk => hk.2) (.int .i64 t793)) (fun _ hk => ⟨hk.1.1.1.1.1.1.1.2, ⟨hk.1.1.1.1.1.1.2, ⟨hk.1.1.1.1.1.2, ⟨hk.1.1.1.1.2, ⟨hk.1.1.1.2, ⟨hk.1.1.1.1.1.1.1.1.2, ⟨hk.1.1.2, hk.1.2⟩⟩⟩⟩⟩⟩⟩)⟩
    have n1_ : Aside0 (Kd.R k37 37 ((((w235.setCell ⟨gb794, 0, none⟩ (.int .i64 t790)).setCell ⟨gb794, 1, none⟩ (.int .i64 t791)).setCell ⟨gb794, 2, none⟩ (.int .i64 t792)).setCell ⟨gb794, 3, none⟩ (.int .i64 t793)) w.heap.size (fun k_ => some k_ ≠ (.slice Ao176 t740.length co176 : Value).ownBlock ∧ some k_ ≠ (.slice Ao192 t756.length co192 : Value).ownBlock ∧ some k_ ≠ (.slice Ao200 t762.length co200 : Value).ownBlock ∧ some k_ ≠ (.slice Ao209 t768.length co209 : Value).ownBlock ∧ some k_ ≠ (.slice Ao220 t774.length co220 : Value).ownBlock ∧ k_ ≠ gb748 ∧ k_ ≠ gb784 ∧ k_ ≠ gb794) (.slice Ao183 t750.length co183) t750) := ⟨by (with_reducible repeat (first | apply Kd.R_alloc | apply Kd.R_drewN | apply Kd.R_drew)); exact Kd.R_mono (Kd.R_far (p := ⟨gb794, 3, none⟩) (Kd.R_far (p := ⟨gb794, 2, none⟩) (Kd.R_far (p := ⟨gb794, 1, none⟩) (Kd.R_far (p := ⟨gb794, 0, none⟩) (Kd.R_mono HO752.out (fun k_ hk => (⟨hk, hk.2⟩ : _ ∧ k_ ≠ gb794))) (fun _ hk => hk.2) (.int .i64 t790)) (fun _ hk => hk.2) (.int .i64 t791)) (fun _ hk => hk.2) (.int .i64 t792)) (fun _ hk => hk.2) (.int .i64 t793)) (fun _ hk => ⟨hk.1.1.1.1.1.1.1.1.2, ⟨hk.1.1.1.1.1.1.2, ⟨hk.1.1.1.1.1.2, ⟨hk.1.1.1.1.2, ⟨hk.1.1.1.2, ⟨hk.1.1.1.1.1.1.1.2, ⟨hk.1.1.2, hk.1.2⟩⟩⟩⟩⟩⟩⟩)⟩
    have n2_ : Aside0 (Kd.R k37 37 ((((w235.setCell ⟨gb794, 0, none⟩ (.int .i64 t790)).setCell ⟨gb794, 1, none⟩ (.int .i64 t791)).setCell ⟨gb794, 2, none⟩ (.int .i64 t792)).setCell ⟨gb794, 3, none⟩ (.int .i64 t793)) w.heap.size (fun k_ => some k_ ≠ (.slice Ao176 t740.length co176 : Value).ownBlock ∧ some k_ ≠ (.slice Ao183 t750.length co183 : Value).ownBlock ∧ some k_ ≠ (.slice Ao200 t762.length co200 : Value).ownBlock ∧ some k_ ≠ (.slice Ao209 t768.length co209 : Value).ownBlock ∧ some k_ ≠ (.slice Ao220 t774.length co220 : Value).ownBlock ∧ k_ ≠ gb748 ∧ k_ ≠ gb784 ∧ k_ ≠ gb794) (.slice Ao192 t756.length co192) t756) := ⟨by (with_reducible repeat (first | apply Kd.R_alloc | apply Kd.R_drewN | apply Kd.R_drew)); exact Kd.R_mono (Kd.R_far (p := ⟨gb794, 3, none⟩) (Kd.R_far (p := ⟨gb794, 2, none⟩) (Kd.R_far (p := ⟨gb794, 1, none⟩) (Kd.R_far (p := ⟨gb794, 0, none⟩) (Kd.R_mono HO758.out (fun k_ hk => (⟨hk, hk.2⟩ : _ ∧ k_ ≠ gb794))) (fun _ hk => hk.2) (.int .i64 t790)) (fun _ hk => hk.2) (.int .i64 t791)) (fun _ hk => hk.2) (.int .i64 t792)) (fun _ hk => hk.2) (.int .i64 t793)) (fun _ hk => ⟨hk.1.1.1.1.1.1.1.1.2, ⟨hk.1.1.1.1.1.1.1.2, ⟨hk.1.1.1.1.1.2, ⟨hk.1.1.1.1.2, ⟨hk.1.1.1.2, ⟨hk.1.1.1.1.1.1.2, ⟨hk.1.1.2, hk.1.2⟩⟩⟩⟩⟩⟩⟩)⟩
    have n3_ : Aside0 (Kd.R k37 37 ((((w235.setCell ⟨gb794, 0, none⟩ (.int .i64 t790)).setCell ⟨gb794, 1, none⟩ (.int .i64 t791)).setCell ⟨gb794, 2, none⟩ (.int .i64 t792)).setCell ⟨gb794, 3, none⟩ (.int .i64 t793)) w.heap.size (fun k_ => some k_ ≠ (.slice Ao176 t740.length co176 : Value).ownBlock ∧ some k_ ≠ (.slice Ao183 t750.length co183 : Value).ownBlock ∧ some k_ ≠ (.slice Ao192 t756.length co192 : Value).ownBlock ∧ some k_ ≠ (.slice Ao209 t768.length co209 : Value).ownBlock ∧ some k_ ≠ (.slice Ao220 t774.length co220 : Value).ownBlock ∧ k_ ≠ gb748 ∧ k_ ≠ gb784 ∧ k_ ≠ gb794) (.slice Ao200 t762.length co200) t762) := ⟨by (with_reducible repeat (first | apply Kd.R_alloc | apply Kd.R_drewN | apply Kd.R_drew)); exact Kd.R_mono (Kd.R_far (p := ⟨gb794, 3, none⟩) (Kd.R_far (p := ⟨gb794, 2, none⟩) (Kd.R_far (p := ⟨gb794, 1, none⟩) (Kd.R_far (p := ⟨gb794, 0, none⟩) (Kd.R_mono HO764.out (fun k_ hk => (⟨hk, hk.2⟩ : _ ∧ k_ ≠ gb794))) (fun _ hk => hk.2) (.int .i64 t790)) (fun _ hk => hk.2) (.int .i64 t791)) (fun _ hk => hk.2) (.int .i64 t792)) (fun _ hk => hk.2) (.int .i64 t793)) (fun _ hk => ⟨hk.1.1.1.1.1.1.1.1.2, ⟨hk.1.1.1.1.1.1.1.2, ⟨hk.1.1.1.1.1.1.2, ⟨hk.1.1.1.1.2, ⟨hk.1.1.1.2, ⟨hk.1.1.1.1.1.2, ⟨hk.1.1.2, hk.1.2⟩⟩⟩⟩⟩⟩⟩)⟩
    have n4_ : Aside0 (Kd.R k37 37 ((((w235.setCell ⟨gb794, 0, none⟩ (.int .i64 t790)).setCell ⟨gb794, 1, none⟩ (.int .i64 t791)).setCell ⟨gb794, 2, none⟩ (.int .i64 t792)).setCell ⟨gb794, 3, none⟩ (.int .i64 t793)) w.heap.size (fun k_ => some k_ ≠ (.slice Ao176 t740.length co176 : Value).ownBlock ∧ some k_ ≠ (.slice Ao183 t750.length co183 : Value).ownBlock ∧ some k_ ≠ (.slice Ao192 t756.length co192 : Value).ownBlock ∧ some k_ ≠ (.slice Ao200 t762.length co200 : Value).ownBlock ∧ some k_ ≠ (.slice Ao220 t774.length co220 : Value).ownBlock ∧ k_ ≠ gb748 ∧ k_ ≠ gb784 ∧ k_ ≠ gb794) (.slice Ao209 t768.length co209) t768) := ⟨by (with_reducible repeat (first | apply Kd.R_alloc | apply Kd.R_drewN | apply Kd.R_drew)); exact Kd.R_mono (Kd.R_far (p := ⟨gb794, 3, none⟩) (Kd.R_far (p := ⟨gb794, 2, none⟩) (Kd.R_far (p := ⟨gb794, 1, none⟩) (Kd.R_far (p := ⟨gb794, 0, none⟩) (Kd.R_mono HO770.out (fun k_ hk => (⟨hk, hk.2⟩ : _ ∧ k_ ≠ gb794))) (fun _ hk => hk.2) (.int .i64 t790)) (fun _ hk => hk.2) (.int .i64 t791)) (fun _ hk => hk.2) (.int .i64 t792)) (fun _ hk => hk.2) (.int .i64 t793)) (fun _ hk => ⟨hk.1.1.1.1.1.1.1.1.2, ⟨hk.1.1.1.1.1.1.1.2, ⟨hk.1.1.1.1.1.1.2, ⟨hk.1.1.1.1.1.2, ⟨hk.1.1.1.2, ⟨hk.1.1.1.1.2, ⟨hk.1.1.2, hk.1.2⟩⟩⟩⟩⟩⟩⟩)⟩
    have n5_ : Aside0 (Kd.R k37 37 ((((w235.setCell ⟨gb794, 0, none⟩ (.int .i64 t790)).setCell ⟨gb794, 1, none⟩ (.int .i64 t791)).setCell ⟨gb794, 2, none⟩ (.int .i64 t792)).setCell ⟨gb794, 3, none⟩ (.int .i64 t793)) w.heap.size (fun k_ => some k_ ≠ (.slice Ao176 t740.length co176 : Value).ownBlock ∧ some k_ ≠ (.slice Ao183 t750.length co183 : Value).ownBlock ∧ some k_ ≠ (.slice Ao192 t756.length co192 : Value).ownBlock ∧ some k_ ≠ (.slice Ao200 t762.length co200 : Value).ownBlock ∧ some k_ ≠ (.slice Ao209 t768.length co209 : Value).ownBlock ∧ k_ ≠ gb748 ∧ k_ ≠ gb784 ∧ k_ ≠ gb794) (.slice Ao220 t774.length co220) t774) := ⟨by (with_reducible repeat (first | apply Kd.R_alloc | apply Kd.R_drewN | apply Kd.R_drew)); exact Kd.R_mono (Kd.R_far (p := ⟨gb794, 3, none⟩) (Kd.R_far (p := ⟨gb794, 2, none⟩) (Kd.R_far (p := ⟨gb794, 1, none⟩) (Kd.R_far (p := ⟨gb794, 0, none⟩) (Kd.R_mono HO776.out (fun k_ hk => (⟨hk, hk.2⟩ : _ ∧ k_ ≠ gb794))) (fun _ hk => hk.2) (.int .i64 t790)) (fun _ hk => hk.2) (.int .i64 t791)) (fun _ hk => hk.2) (.int .i64 t792)) (fun _ hk => hk.2) (.int .i64 t793)) (fun _ hk => ⟨hk.1.1.1.1.1.1.1.1.2, ⟨hk.1.1.1.1.1.1.1.2, ⟨hk.1.1.1.1.1.1.2, ⟨hk.1.1.1.1.1.2, ⟨hk.1.1.1.1.2, ⟨hk.1.1.1.2, ⟨hk.1.1.2, hk.1.2⟩⟩⟩⟩⟩⟩⟩)⟩
    have n6_ : Aside0 (((((w235.setCell ⟨gb794, 0, none⟩ (.int .i64 t790)).setCell ⟨gb794, 1, none⟩ (.int .i64 t791)).setCell ⟨gb794, 2, none⟩ (.int .i64 t792)).setCell ⟨gb794, 3, none⟩ (.int .i64 t793)).heap[gb747]? = some (.cells #[.int .i64 t739, .slice Ao176 t740.length co176] 28 (0, 0))) := ⟨pf BK747⟩
    have n7_ : Aside0 (((((w235.setCell ⟨gb794, 0, none⟩ (.int .i64 t790)).setCell ⟨gb794, 1, none⟩ (.int .i64 t791)).setCell ⟨gb794, 2, none⟩ (.int .i64 t792)).setCell ⟨gb794, 3, none⟩ (.int .i64 t793)).heap[gb748]? = some (.cells #[.int .i64 t743, .int .i64 t744, .int .i64 t745, .int .i64 t746] 37 (0, 0))) := ⟨pf BK748⟩
    have n8_ : Aside0 (((((w235.setCell ⟨gb794, 0, none⟩ (.int .i64 t790)).setCell ⟨gb794, 1, none⟩ (.int .i64 t791)).setCell ⟨gb794, 2, none⟩ (.int .i64 t792)).setCell ⟨gb794, 3, none⟩ (.int .i64 t793)).heap[gb754]? = some (.cells #[.int .i64 t749, .slice Ao183 t750.length co183] 28 (0, 0))) := ⟨pf BK754⟩
    have n9_ : Aside0 (((((w235.setCell ⟨gb794, 0, none⟩ (.int .i64 t790)).setCell ⟨gb794, 1, none⟩ (.int .i64 t791)).setCell ⟨gb794, 2, none⟩ (.int .i64 t792)).setCell ⟨gb794, 3, none⟩ (.int .i64 t793)).heap[gb760]? = some (.cells #[.int .i64 t755, .slice Ao192 t756.length co192] 28 (0, 0))) := ⟨pf BK760⟩
    have n10_ : Aside0 (((((w235.setCell ⟨gb794, 0, none⟩ (.int .i64 t790)).setCell ⟨gb794, 1, none⟩ (.int .i64 t791)).setCell ⟨gb794, 2, none⟩ (.int .i64 t792)).setCell ⟨gb794, 3, none⟩ (.int .i64 t793)).heap[gb766]? = some (.cells #[.int .i64 t761, .slice Ao200 t762.length co200] 28 (0, 0))) := ⟨pf BK766⟩
    have n11_ : Aside0 (((((w235.setCell ⟨gb794, 0, none⟩ (.int .i64 t790)).setCell ⟨gb794, 1, none⟩ (.int .i64 t791)).setCell ⟨gb794, 2, none⟩ (.int .i64 t792)).setCell ⟨gb794, 3, none⟩ (.int .i64 t793)).heap[gb772]? = some (.cells #[.int .i64 t767, .slice Ao209 t768.length co209] 28 (0, 0))) := ⟨pf BK772⟩
    have n12_ : Aside0 (((((w235.setCell ⟨gb794, 0, none⟩ (.int .i64 t790)).setCell ⟨gb794, 1, none⟩ (.int .i64 t791)).setCell ⟨gb794, 2, none⟩ (.int .i64 t792)).setCell ⟨gb794, 3, none⟩ (.int .i64 t793)).heap[gb778]? = some (.cells #[.int .i64 t773, .slice Ao220 t774.length co220] 28 (0, 0))) := ⟨pf BK778⟩
    have n13_ : Aside0 (((((w235.setCell ⟨gb794, 0, none⟩ (.int .i64 t790)).setCell ⟨gb794, 1, none⟩ (.int .i64 t791)).setCell ⟨gb794, 2, none⟩ (.int .i64 t792)).setCell ⟨gb794, 3, none⟩ (.int .i64 t793)).heap[gb784]? = some (.cells #[.int .i64 t779, .int .i64 t780, .int .i64 t781, .int .i64 t782] 37 (0, 0))) := ⟨pf BK784⟩
    have n14_ : Aside0 (((((w235.setCell ⟨gb794, 0, none⟩ (.int .i64 t790)).setCell ⟨gb794, 1, none⟩ (.int .i64 t791)).setCell ⟨gb794, 2, none⟩ (.int .i64 t792)).setCell ⟨gb794, 3, none⟩ (.int .i64 t793)).heap[gb794]? = some (.cells #[.int .i64 t790, .int .i64 t791, .int .i64 t792, .int .i64 t793] 37 (0, 0))) := ⟨pz BK794⟩
    have n15_ : Aside0 (Below w.heap.size w ((((w235.setCell ⟨gb794, 0, none⟩ (.int .i64 t790)).setCell ⟨gb794, 1, none⟩ (.int .i64 t791)).setCell ⟨gb794, 2, none⟩ (.int .i64 t792)).setCell ⟨gb794, 3, none⟩ (.int .i64 t793))) := ⟨bw⟩
    (try clear HO742)
    (try clear HO752)
    (try clear HO758)
    (try clear HO764)
    (try clear HO770)
    (try clear HO776)
    (try clear BK747)
    (try clear BK748)
    (try clear BK754)
    (try clear BK760)
    (try clear BK766)
    (try clear BK772)
    (try clear BK778)
    (try clear BK784)
    (try clear BK794)
    (try clear HB)
    generalize ((((w235.setCell ⟨gb794, 0, none⟩ (.int .i64 t790)).setCell ⟨gb794, 1, none⟩ (.int .i64 t791)).setCell ⟨gb794, 2, none⟩ (.int .i64 t792)).setCell ⟨gb794, 3, none⟩ (.int .i64 t793)) = w258 at n0_ n1_ n2_ n3_ n4_ n5_ n6_ n7_ n8_ n9_ n10_ n11_ n12_ n13_ n14_ n15_ ⊢
    have HO742 := n0_
    have HO752 := n1_
    have HO758 := n2_
    have HO764 := n3_
    have HO770 := n4_
    have HO776 := n5_
    have BK747 := n6_
    have BK748 := n7_
    have BK754 := n8_
    have BK760 := n9_
    have BK766 := n10_
    have BK772 := n11_
    have BK778 := n12_
    have BK784 := n13_
    have BK794 := n14_
    have HB := n15_
    clear n0_ n1_ n2_ n3_ n4_ n5_ n6_ n7_ n8_ n9_ n10_ n11_ n12_ n13_ n14_ n15_
    replace HO742 := Aside0.mk (Kd.R_drew HO742.out)
    replace HO752 := Aside0.mk (Kd.R_drew HO752.out)
    replace HO758 := Aside0.mk (Kd.R_drew HO758.out)
    replace HO764 := Aside0.mk (Kd.R_drew HO764.out)
    replace HO770 := Aside0.mk (Kd.R_drew HO770.out)
    replace HO776 := Aside0.mk (Kd.R_drew HO776.out)
    replace BK747 := Aside0.mk (blk_drew BK747.out)
    replace BK748 := Aside0.mk (blk_drew BK748.out)
    replace BK754 := Aside0.mk (blk_drew BK754.out)
    replace BK760 := Aside0.mk (blk_drew BK760.out)
    replace BK766 := Aside0.mk (blk_drew BK766.out)
    replace BK772 := Aside0.mk (blk_drew BK772.out)
    replace BK778 := Aside0.mk (blk_drew BK778.out)
    replace BK784 := Aside0.mk (blk_drew BK784.out)
    replace BK794 := Aside0.mk (blk_drew BK794.out)
    replace HB := Aside0.mk (below_drew1 HB.out)
    refine start_ (n := 49) (S := fun w' => w'.cell? ⟨gb754, 0, none⟩ = some (.int .i64 t749) ∧ w'.cell? ⟨gb754, 1, none⟩ = some (.slice Ao183 t750.length co183) ∧ w'.cell? ⟨gb760, 0, none⟩ = some (.int .i64 t755) ∧ w'.cell? ⟨gb760, 1, none⟩ = some (.slice Ao192 t756.length co192) ∧ w'.cell? ⟨gb772, 0, none⟩ = some (.int .i64 t767) ∧ w'.cell? ⟨gb772, 1, none⟩ = some (.slice Ao209 t768.length co209) ∧ w'.cell? ⟨gb778, 0, none⟩ = some (.int .i64 t773) ∧ w'.cell? ⟨gb778, 1, none⟩ = some (.slice Ao220 t774.length co220) ∧ w'.cell? ⟨gb794, 0, none⟩ = some (.int .i64 t790) ∧ w'.cell? ⟨gb794, 1, none⟩ = some (.int .i64 t791) ∧ w'.cell? ⟨gb794, 2, none⟩ = some (.int .i64 t792) ∧ w'.cell? ⟨gb794, 3, none⟩ = some (.int .i64 t793) ∧ w'.cell? ⟨gb784, 0, none⟩ = some (.int .i64 t779) ∧ w'.cell? ⟨gb784, 1, none⟩ = some (.int .i64 t780) ∧ w'.cell? ⟨gb784, 2, none⟩ = some (.int .i64 t781) ∧ w'.cell? ⟨gb784, 3, none⟩ = some (.int .i64 t782)) (ds := []) (tb 49 0) (by kernel_rfl) rfl rfl ⟨ec BK754, ec BK754, ec BK760, ec BK760, ec BK772, ec BK772, ec BK778, ec BK778, ec BK794, ec BK794, ec BK794, ec BK794, ec BK784, ec BK784, ec BK784, ec BK784⟩ (fun hHeld => ?_); refine with_tabW laws_FnRowsHidden.tab62 laws_FnRowsHidden.bits62 (fun HT_ HW_ => ?_)
    generalize w258.drew = w259 at HO742 HO752 HO758 HO764 HO770 HO776 BK747 BK748 BK754 BK760 BK766 BK772 BK778 BK784 BK794 HB hHeld ⊢
    refine pu 0 (some 385) (tb 49 1) ?_
    refine pu 1 (some 386) (tb 49 3) ?_
    refine pu 2 (some 387) (tb 49 7) ?_
    refine pu 3 (some 388) (tb 49 15) ?_
    refine tk 4 (some 389) (tb 49 31) (hT := HT_) (hB := HW_) hHeld ?_
    refine tk 5 (some 390) (tb 49 63) (hT := HT_) (hB := HW_) hHeld ?_
    refine one_ (i := 6) (N := some 391) (tb 49 127) rfl rfl (one_of HT_.out (by kernel_rfl)) (by decide) (fun K hK => ?_)
    refine go1 Tryz.func8 #[.agg #[.int .i64 t749, .slice Ao183 t750.length co183], .agg #[.int .i64 t755, .slice Ao192 t756.length co192]] ?_
    with_reducible refine (laws_vPuzzle.calls kj135 t749 _ _ t750 t755 _ _ t756 true _ ?side1 ?side2 ?side3 ?side4 A246.out).mono ?_
    (case side1 => exact rr HO752)
    (case side2 => exact rn HO752)
    (case side3 => exact rr HO758)
    (case side4 => exact rn HO758)
    rintro e w260 ⟨rfl, hb⟩
    refine ⟨_, rfl, ?_⟩
    replace HO742 := rl HO742 hb
    replace HO752 := rl HO752 hb
    replace HO758 := rl HO758 hb
    replace HO764 := rl HO764 hb
    replace HO770 := rl HO770 hb
    replace HO776 := rl HO776 hb
    replace BK747 := nk BK747 hb
    replace BK748 := nk BK748 hb
    replace BK754 := nk BK754 hb
    replace BK760 := nk BK760 hb
    replace BK766 := nk BK766 hb
    replace BK772 := nk BK772 hb
    replace BK778 := nk BK778 hb
    replace BK784 := nk BK784 hb
    replace BK794 := nk BK794 hb
    replace HB := bs hb
    (try clear hb)
    refine hK.out _ _ ⟨ec BK754, ec BK754, ec BK760, ec BK760, ec BK772, ec BK772, ec BK778, ec BK778, ec BK794, ec BK794, ec BK794, ec BK794, ec BK784, ec BK784, ec BK784, ec BK784⟩ (fun hHeld => ?_)
    clear hK K
    refine nm (some 391) ?_
    refine pu 7 (some 392) (tb 49 255) ?_
    refine pu 8 (some 393) (tb 49 511) ?_
    refine pu 9 (some 394) (tb 49 1023) ?_
    refine pu 10 (some 395) (tb 49 2047) ?_
    refine pu 11 (some 396) (tb 49 4095) ?_
    refine pu 12 (some 397) (tb 49 8191) ?_
    refine pu 13 (some 398) (tb 49 16383) ?_
    refine pu 14 (some 399) (tb 49 32767) ?_
    refine tk 15 (some 400) (tb 49 65535) (hT := HT_) (hB := HW_) hHeld ?_
    refine tk 16 (some 401) (tb 49 131071) (hT := HT_) (hB := HW_) hHeld ?_
    refine one_ (i := 17) (N := some 402) (tb 49 262143) rfl rfl (one_of HT_.out (by kernel_rfl)) (by decide) (fun K hK => ?_)
    refine go1 Tryz.func8 #[.agg #[.int .i64 t767, .slice Ao209 t768.length co209], .agg #[.int .i64 t773, .slice Ao220 t774.length co220]] ?_
    with_reducible refine (laws_vPuzzle.calls kj135 t767 _ _ t768 t773 _ _ t774 true _ ?side1 ?side2 ?side3 ?side4 A249.out).mono ?_
    (case side1 => exact rr HO770)
    (case side2 => exact rn HO770)
    (case side3 => exact rr HO776)
    (case side4 => exact rn HO776)
    rintro e w261 ⟨rfl, hb⟩
    refine ⟨_, rfl, ?_⟩
    replace HO742 := rl HO742 hb
    replace HO752 := rl HO752 hb
    replace HO758 := rl HO758 hb
    replace HO764 := rl HO764 hb
    replace HO770 := rl HO770 hb
    replace HO776 := rl HO776 hb
    replace BK747 := nk BK747 hb
    replace BK748 := nk BK748 hb
    replace BK754 := nk BK754 hb
    replace BK760 := nk BK760 hb
    replace BK766 := nk BK766 hb
    replace BK772 := nk BK772 hb
    replace BK778 := nk BK778 hb
    replace BK784 := nk BK784 hb
    replace BK794 := nk BK794 hb
    replace HB := bs hb
    (try clear hb)
    refine hK.out _ _ ⟨ec BK754, ec BK754, ec BK760, ec BK760, ec BK772, ec BK772, ec BK778, ec BK778, ec BK794, ec BK794, ec BK794, ec BK794, ec BK784, ec BK784, ec BK784, ec BK784⟩ (fun hHeld => ?_)
    clear hK K
    refine nm (some 402) ?_
    refine pu 18 (some 403) (tb 49 524287) ?_
    refine pu 19 (some 404) (tb 49 1048575) ?_
    refine pu 20 (some 405) (tb 49 2097151) ?_
    refine pu 21 (some 406) (tb 49 4194303) ?_
    refine pu 22 (some 407) (tb 49 8388607) ?_
    refine pu 23 (some 408) (tb 49 16777215) ?_
    refine pu 24 (some 409) (tb 49 33554431) ?_
    refine pu 25 (some 410) (tb 49 67108863) ?_
    refine pu 26 (some 411) (tb 49 134217727) ?_
    refine pu 27 (some 412) (tb 49 268435455) ?_
    refine pu 28 (some 413) (tb 49 536870911) ?_
    refine pu 29 (some 414) (tb 49 1073741823) ?_
    refine pu 30 (some 415) (tb 49 2147483647) ?_
    refine pu 31 (some 416) (tb 49 4294967295) ?_
    refine pu 34 (some 419) (tb 49 21474836479) ?_
    refine tk 32 (some 417) (tb 49 25769803775) (hT := HT_) (hB := HW_) hHeld ?_
    refine tk 35 (some 420) (tb 49 60129542143) (hT := HT_) (hB := HW_) hHeld ?_
    refine one_ (i := 33) (N := some 418) (tb 49 68719476735) rfl rfl (one_of HT_.out (by kernel_rfl)) (by decide) (fun K hK => ?_)
    refine go1 Tryz.func31 #[.int .i64 t789, .agg #[.int .i64 t790, .int .i64 t791, .int .i64 t792, .int .i64 t793]] ?_
    with_reducible refine (impl_IsClue.calls t789 t790 t791 t792 t793 t797 _ A253.out).mono ?_
    rintro e w262 ⟨rfl, hb⟩
    refine ⟨_, rfl, ?_⟩
    replace HO742 := rl HO742 hb
    replace HO752 := rl HO752 hb
    replace HO758 := rl HO758 hb
    replace HO764 := rl HO764 hb
    replace HO770 := rl HO770 hb
    replace HO776 := rl HO776 hb
    replace BK747 := nk BK747 hb
    replace BK748 := nk BK748 hb
    replace BK754 := nk BK754 hb
    replace BK760 := nk BK760 hb
    replace BK766 := nk BK766 hb
    replace BK772 := nk BK772 hb
    replace BK778 := nk BK778 hb
    replace BK784 := nk BK784 hb
    replace BK794 := nk BK794 hb
    replace HB := bs hb
    (try clear hb)
    refine hK.out _ _ ⟨ec BK754, ec BK754, ec BK760, ec BK760, ec BK772, ec BK772, ec BK778, ec BK778, ec BK794, ec BK794, ec BK794, ec BK794, ec BK784, ec BK784, ec BK784, ec BK784⟩ (fun hHeld => ?_)
    clear hK K
    refine nm (some 418) ?_
    refine one_ (i := 36) (N := some 421) (tb 49 137438953471) rfl rfl (one_of HT_.out (by kernel_rfl)) (by decide) (fun K hK => ?_)
    refine go1 Tryz.func32 #[.int .i64 t789, .agg #[.int .i64 t790, .int .i64 t791, .int .i64 t792, .int .i64 t793]] ?_
    with_reducible refine (spec_IsClue.calls t789 t790 t791 t792 t793 t798 _ A254.out).mono ?_
    rintro e w263 ⟨rfl, hb⟩
    refine ⟨_, rfl, ?_⟩
    replace HO742 := rl HO742 hb
    replace HO752 := rl HO752 hb
    replace HO758 := rl HO758 hb
    replace HO764 := rl HO764 hb
    replace HO770 := rl HO770 hb
    replace HO776 := rl HO776 hb
    replace BK747 := nk BK747 hb
    replace BK748 := nk BK748 hb
    replace BK754 := nk BK754 hb
    replace BK760 := nk BK760 hb
    replace BK766 := nk BK766 hb
    replace BK772 := nk BK772 hb
    replace BK778 := nk BK778 hb
    replace BK784 := nk BK784 hb
    replace BK794 := nk BK794 hb
    replace HB := bs hb
    (try clear hb)
    refine hK.out _ _ ⟨ec BK754, ec BK754, ec BK760, ec BK760, ec BK772, ec BK772, ec BK778, ec BK778, ec BK794, ec BK794, ec BK794, ec BK794, ec BK784, ec BK784, ec BK784, ec BK784⟩ (fun hHeld => ?_)
    clear hK K
    refine nm (some 421) ?_
    refine pu 37 (some 422) (tb 49 274877906943) ?_
    refine pu 38 (some 423) (tb 49 549755813887) ?_
    refine pu 39 (some 424) (tb 49 1099511627775) ?_
    refine pu 40 (some 425) (tb 49 2199023255551) ?_
    refine pu 41 (some 426) (tb 49 4398046511103) ?_
    refine pu 42 (some 427) (tb 49 8796093022207) ?_
    refine pu 43 (some 428) (tb 49 17592186044415) ?_
    refine tk 44 (some 429) (tb 49 35184372088831) (hT := HT_) (hB := HW_) hHeld ?_
    refine one_ (i := 45) (N := some 430) (tb 49 70368744177663) rfl rfl (one_of HT_.out (by kernel_rfl)) (by decide) (fun K hK => ?_)
    refine go1 Tryz.func31 #[.int .i64 (t783.size : Int), .agg #[.int .i64 t779, .int .i64 t780, .int .i64 t781, .int .i64 t782]] ?_
    with_reducible refine (impl_IsClue.calls (t783.size : Int) t779 t780 t781 t782 t799 _ A257.out).mono ?_
    rintro e w264 ⟨rfl, hb⟩
    refine ⟨_, rfl, ?_⟩
    replace HO742 := rl HO742 hb
    replace HO752 := rl HO752 hb
    replace HO758 := rl HO758 hb
    replace HO764 := rl HO764 hb
    replace HO770 := rl HO770 hb
    replace HO776 := rl HO776 hb
    replace BK747 := nk BK747 hb
    replace BK748 := nk BK748 hb
    replace BK754 := nk BK754 hb
    replace BK760 := nk BK760 hb
    replace BK766 := nk BK766 hb
    replace BK772 := nk BK772 hb
    replace BK778 := nk BK778 hb
    replace BK784 := nk BK784 hb
    replace BK794 := nk BK794 hb
    replace HB := bs hb
    (try clear hb)
    refine hK.out _ _ ⟨ec BK754, ec BK754, ec BK760, ec BK760, ec BK772, ec BK772, ec BK778, ec BK778, ec BK794, ec BK794, ec BK794, ec BK794, ec BK784, ec BK784, ec BK784, ec BK784⟩ (fun hHeld => ?_)
    clear hK K
    refine nm (some 430) ?_
    refine pu 46 (some 431) (tb 49 140737488355327) ?_
    refine pu 47 (some 432) (tb 49 281474976710655) ?_
    refine pu 48 (some 433) (tb 49 562949953421311) ?_
    refine done_ (done_of HT_.out (by kernel_rfl)) ?_
    try go_wp2
    go_meet
    case rel => exact ⟨_, (!t799), (rs), H', ⟨by have := HJ10.out; have := HJ99.out; have := HJ135.out; first | omega | exact Nat.le_refl _⟩, ⟨by (with_reducible repeat (first | apply Kd.R_alloc | apply Kd.R_drewN | apply Kd.R_drew)); exact Kd.R_mono HO742.out (fun _ hk => ⟨hk.1, ⟨hk.2.2.1, ⟨hk.2.2.2.1, hk.2.2.2.2.2.1⟩⟩⟩)⟩, ⟨by (with_reducible repeat (first | apply Kd.R_alloc | apply Kd.R_drewN | apply Kd.R_drew)); exact Kd.R_mono HO752.out (fun _ hk => ⟨hk.1, ⟨hk.2.2.1, ⟨hk.2.2.2.1, hk.2.2.2.2.2.1⟩⟩⟩)⟩, ⟨by (with_reducible repeat (first | apply Kd.R_alloc | apply Kd.R_drewN | apply Kd.R_drew)); exact Kd.R_mono HO764.out (fun _ hk => ⟨hk.1, ⟨hk.2.1, ⟨hk.2.2.2.1, hk.2.2.2.2.2.1⟩⟩⟩)⟩, ⟨by (with_reducible repeat (first | apply Kd.R_alloc | apply Kd.R_drewN | apply Kd.R_drew)); exact Kd.R_mono HO770.out (fun _ hk => ⟨hk.1, ⟨hk.2.1, ⟨hk.2.2.2.1, hk.2.2.2.2.2.1⟩⟩⟩)⟩, ⟨pk BK747⟩, ⟨pk BK748⟩, ⟨pk BK754⟩, ⟨pk BK766⟩, ⟨pk BK772⟩, ⟨bw⟩⟩
   replace c256 := Bool.eq_false_iff.mpr c256
   subst c256
   rw [if_neg (show ¬ (false = true) by decide)] at H
   have H' := Aside0.mk H
   clear H
   try go_upto_region 62 with (fail)
   have n0_ : Aside0 (Kd.R k37 37 ((((w235.setCell ⟨gb794, 0, none⟩ (.int .i64 t790)).setCell ⟨gb794, 1, none⟩ (.int .i64 t791)).setCell ⟨gb794, 2, none⟩ (.int .i64 t792)).setCell ⟨gb794, 3, none⟩ (.int .i64 t793)) w.heap.size (fun k_ => some k_ ≠ (.slice Ao183 t750.length co183 : Value).ownBlock ∧ some k_ ≠ (.slice Ao192 t756.length co192 : Value).ownBlock ∧ some k_ ≠ (.slice Ao200 t762.length co200 : Value).ownBlock ∧ some k_ ≠ (.slice Ao209 t768.length co209 : Value).ownBlock ∧ some k_ ≠ (.slice Ao220 t774.length co220 : Value).ownBlock ∧ k_ ≠ gb748 ∧ k_ ≠ gb784 ∧ k_ ≠ gb794) (.slice Ao176 t740.length co176) t740) := ⟨by (with_reducible repeat (first | apply Kd.R_alloc | apply Kd.R_drewN | apply Kd.R_drew)); exact Kd.R_mono (Kd.R_far (p := ⟨gb794, 3, none⟩) (Kd.R_far (p := ⟨gb794, 2, none⟩) (Kd.R_far (p := ⟨gb794, 1, none⟩) (Kd.R_far (p := ⟨gb794, 0, none⟩) (Kd.R_mono HO742.out (fun k_ hk => (⟨hk, hk.2⟩ : _ ∧ k_ ≠ gb794))) (fun _ hk => hk.2) (.int .i64 t790)) (fun _ hk => hk.2) (.int .i64 t791)) (fun _ hk => hk.2) (.int .i64 t792)) (fun _ hk => hk.2) (.int .i64 t793)) (fun _ hk => ⟨hk.1.1.1.1.1.1.1.2, ⟨hk.1.1.1.1.1.1.2, ⟨hk.1.1.1.1.1.2, ⟨hk.1.1.1.1.2, ⟨hk.1.1.1.2, ⟨hk.1.1.1.1.1.1.1.1.2, ⟨hk.1.1.2, hk.1.2⟩⟩⟩⟩⟩⟩⟩)⟩
   have n1_ : Aside0 (Kd.R k37 37 ((((w235.setCell ⟨gb794, 0, none⟩ (.int .i64 t790)).setCell ⟨gb794, 1, none⟩ (.int .i64 t791)).setCell ⟨gb794, 2, none⟩ (.int .i64 t792)).setCell ⟨gb794, 3, none⟩ (.int .i64 t793)) w.heap.size (fun k_ => some k_ ≠ (.slice Ao176 t740.length co176 : Value).ownBlock ∧ some k_ ≠ (.slice Ao192 t756.length co192 : Value).ownBlock ∧ some k_ ≠ (.slice Ao200 t762.length co200 : Value).ownBlock ∧ some k_ ≠ (.slice Ao209 t768.length co209 : Value).ownBlock ∧ some k_ ≠ (.slice Ao220 t774.length co220 : Value).ownBlock ∧ k_ ≠ gb748 ∧ k_ ≠ gb784 ∧ k_ ≠ gb794) (.slice Ao183 t750.length co183) t750) := ⟨by (with_reducible repeat (first | apply Kd.R_alloc | apply Kd.R_drewN | apply Kd.R_drew)); exact Kd.R_mono (Kd.R_far (p := ⟨gb794, 3, none⟩) (Kd.R_far (p := ⟨gb794, 2, none⟩) (Kd.R_far (p := ⟨gb794, 1, none⟩) (Kd.R_far (p := ⟨gb794, 0, none⟩) (Kd.R_mono HO752.out (fun k_ hk => (⟨hk, hk.2⟩ : _ ∧ k_ ≠ gb794))) (fun _ hk => hk.2) (.int .i64 t790)) (fun _ hk => hk.2) (.int .i64 t791)) (fun _ hk => hk.2) (.int .i64 t792)) (fun _ hk => hk.2) (.int .i64 t793)) (fun _ hk => ⟨hk.1.1.1.1.1.1.1.1.2, ⟨hk.1.1.1.1.1.1.2, ⟨hk.1.1.1.1.1.2, ⟨hk.1.1.1.1.2, ⟨hk.1.1.1.2, ⟨hk.1.1.1.1.1.1.1.2, ⟨hk.1.1.2, hk.1.2⟩⟩⟩⟩⟩⟩⟩)⟩
   have n2_ : Aside0 (Kd.R k37 37 ((((w235.setCell ⟨gb794, 0, none⟩ (.int .i64 t790)).setCell ⟨gb794, 1, none⟩ (.int .i64 t791)).setCell ⟨gb794, 2, none⟩ (.int .i64 t792)).setCell ⟨gb794, 3, none⟩ (.int .i64 t793)) w.heap.size (fun k_ => some k_ ≠ (.slice Ao176 t740.length co176 : Value).ownBlock ∧ some k_ ≠ (.slice Ao183 t750.length co183 : Value).ownBlock ∧ some k_ ≠ (.slice Ao200 t762.length co200 : Value).ownBlock ∧ some k_ ≠ (.slice Ao209 t768.length co209 : Value).ownBlock ∧ some k_ ≠ (.slice Ao220 t774.length co220 : Value).ownBlock ∧ k_ ≠ gb748 ∧ k_ ≠ gb784 ∧ k_ ≠ gb794) (.slice Ao192 t756.length co192) t756) := ⟨by (with_reducible repeat (first | apply Kd.R_alloc | apply Kd.R_drewN | apply Kd.R_drew)); exact Kd.R_mono (Kd.R_far (p := ⟨gb794, 3, none⟩) (Kd.R_far (p := ⟨gb794, 2, none⟩) (Kd.R_far (p := ⟨gb794, 1, none⟩) (Kd.R_far (p := ⟨gb794, 0, none⟩) (Kd.R_mono HO758.out (fun k_ hk => (⟨hk, hk.2⟩ : _ ∧ k_ ≠ gb794))) (fun _ hk => hk.2) (.int .i64 t790)) (fun _ hk => hk.2) (.int .i64 t791)) (fun _ hk => hk.2) (.int .i64 t792)) (fun _ hk => hk.2) (.int .i64 t793)) (fun _ hk => ⟨hk.1.1.1.1.1.1.1.1.2, ⟨hk.1.1.1.1.1.1.1.2, ⟨hk.1.1.1.1.1.2, ⟨hk.1.1.1.1.2, ⟨hk.1.1.1.2, ⟨hk.1.1.1.1.1.1.2, ⟨hk.1.1.2, hk.1.2⟩⟩⟩⟩⟩⟩⟩)⟩
   have n3_ : Aside0 (Kd.R k37 37 ((((w235.setCell ⟨gb794, 0, none⟩ (.int .i64 t790)).setCell ⟨gb794, 1, none⟩ (.int .i64 t791)).setCell ⟨gb794, 2, none⟩ (.int .i64 t792)).setCell ⟨gb794, 3, none⟩ (.int .i64 t793)) w.heap.size (fun k_ => some k_ ≠ (.slice Ao176 t740.length co176 : Value).ownBlock ∧ some k_ ≠ (.slice Ao183 t750.length co183 : Value).ownBlock ∧ some k_ ≠ (.slice Ao192 t756.length co192 : Value).ownBlock ∧ some k_ ≠ (.slice Ao209 t768.length co209 : Value).ownBlock ∧ some k_ ≠ (.slice Ao220 t774.length co220 : Value).ownBlock ∧ k_ ≠ gb748 ∧ k_ ≠ gb784 ∧ k_ ≠ gb794) (.slice Ao200 t762.length co200) t762) := ⟨by (with_reducible repeat (first | apply Kd.R_alloc | apply Kd.R_drewN | apply Kd.R_drew)); exact Kd.R_mono (Kd.R_far (p := ⟨gb794, 3, none⟩) (Kd.R_far (p := ⟨gb794, 2, none⟩) (Kd.R_far (p := ⟨gb794, 1, none⟩) (Kd.R_far (p := ⟨gb794, 0, none⟩) (Kd.R_mono HO764.out (fun k_ hk => (⟨hk, hk.2⟩ : _ ∧ k_ ≠ gb794))) (fun _ hk => hk.2) (.int .i64 t790)) (fun _ hk => hk.2) (.int .i64 t791)) (fun _ hk => hk.2) (.int .i64 t792)) (fun _ hk => hk.2) (.int .i64 t793)) (fun _ hk => ⟨hk.1.1.1.1.1.1.1.1.2, ⟨hk.1.1.1.1.1.1.1.2, ⟨hk.1.1.1.1.1.1.2, ⟨hk.1.1.1.1.2, ⟨hk.1.1.1.2, ⟨hk.1.1.1.1.1.2, ⟨hk.1.1.2, hk.1.2⟩⟩⟩⟩⟩⟩⟩)⟩
   have n4_ : Aside0 (Kd.R k37 37 ((((w235.setCell ⟨gb794, 0, none⟩ (.int .i64 t790)).setCell ⟨gb794, 1, none⟩ (.int .i64 t791)).setCell ⟨gb794, 2, none⟩ (.int .i64 t792)).setCell ⟨gb794, 3, none⟩ (.int .i64 t793)) w.heap.size (fun k_ => some k_ ≠ (.slice Ao176 t740.length co176 : Value).ownBlock ∧ some k_ ≠ (.slice Ao183 t750.length co183 : Value).ownBlock ∧ some k_ ≠ (.slice Ao192 t756.length co192 : Value).ownBlock ∧ some k_ ≠ (.slice Ao200 t762.length co200 : Value).ownBlock ∧ some k_ ≠ (.slice Ao220 t774.length co220 : Value).ownBlock ∧ k_ ≠ gb748 ∧ k_ ≠ gb784 ∧ k_ ≠ gb794) (.slice Ao209 t768.length co209) t768) := ⟨by (with_reducible repeat (first | apply Kd.R_alloc | apply Kd.R_drewN | apply Kd.R_drew)); exact Kd.R_mono (Kd.R_far (p := ⟨gb794, 3, none⟩) (Kd.R_far (p := ⟨gb794, 2, none⟩) (Kd.R_far (p := ⟨gb794, 1, none⟩) (Kd.R_far (p := ⟨gb794, 0, none⟩) (Kd.R_mono HO770.out (fun k_ hk => (⟨hk, hk.2⟩ : _ ∧ k_ ≠ gb794))) (fun _ hk => hk.2) (.int .i64 t790)) (fun _ hk => hk.2) (.int .i64 t791)) (fun _ hk => hk.2) (.int .i64 t792)) (fun _ hk => hk.2) (.int .i64 t793)) (fun _ hk => ⟨hk.1.1.1.1.1.1.1.1.2, ⟨hk.1.1.1.1.1.1.1.2, ⟨hk.1.1.1.1.1.1.2, ⟨hk.1.1.1.1.1.2, ⟨hk.1.1.1.2, ⟨hk.1.1.1.1.2, ⟨hk.1.1.2, hk.1.2⟩⟩⟩⟩⟩⟩⟩)⟩
   have n5_ : Aside0 (Kd.R k37 37 ((((w235.setCell ⟨gb794, 0, none⟩ (.int .i64 t790)).setCell ⟨gb794, 1, none⟩ (.int .i64 t791)).setCell ⟨gb794, 2, none⟩ (.int .i64 t792)).setCell ⟨gb794, 3, none⟩ (.int .i64 t793)) w.heap.size (fun k_ => some k_ ≠ (.slice Ao176 t740.length co176 : Value).ownBlock ∧ some k_ ≠ (.slice Ao183 t750.length co183 : Value).ownBlock ∧ some k_ ≠ (.slice Ao192 t756.length co192 : Value).ownBlock ∧ some k_ ≠ (.slice Ao200 t762.length co200 : Value).ownBlock ∧ some k_ ≠ (.slice Ao209 t768.length co209 : Value).ownBlock ∧ k_ ≠ gb748 ∧ k_ ≠ gb784 ∧ k_ ≠ gb794) (.slice Ao220 t774.length co220) t774) := ⟨by (with_reducible repeat (first | apply Kd.R_alloc | apply Kd.R_drewN | apply Kd.R_drew)); exact Kd.R_mono (Kd.R_far (p := ⟨gb794, 3, none⟩) (Kd.R_far (p := ⟨gb794, 2, none⟩) (Kd.R_far (p := ⟨gb794, 1, none⟩) (Kd.R_far (p := ⟨gb794, 0, none⟩) (Kd.R_mono HO776.out (fun k_ hk => (⟨hk, hk.2⟩ : _ ∧ k_ ≠ gb794))) (fun _ hk => hk.2) (.int .i64 t790)) (fun _ hk => hk.2) (.int .i64 t791)) (fun _ hk => hk.2) (.int .i64 t792)) (fun _ hk => hk.2) (.int .i64 t793)) (fun _ hk => ⟨hk.1.1.1.1.1.1.1.1.2, ⟨hk.1.1.1.1.1.1.1.2, ⟨hk.1.1.1.1.1.1.2, ⟨hk.1.1.1.1.1.2, ⟨hk.1.1.1.1.2, ⟨hk.1.1.1.2, ⟨hk.1.1.2, hk.1.2⟩⟩⟩⟩⟩⟩⟩)⟩
   have n6_ : Aside0 (((((w235.setCell ⟨gb794, 0, none⟩ (.int .i64 t790)).setCell ⟨gb794, 1, none⟩ (.int .i64 t791)).setCell ⟨gb794, 2, none⟩ (.int .i64 t792)).setCell ⟨gb794, 3, none⟩ (.int .i64 t793)).heap[gb747]? = some (.cells #[.int .i64 t739, .slice Ao176 t740.length co176] 28 (0, 0))) := ⟨pf BK747⟩
   have n7_ : Aside0 (((((w235.setCell ⟨gb794, 0, none⟩ (.int .i64 t790)).setCell ⟨gb794, 1, none⟩ (.int .i64 t791)).setCell ⟨gb794, 2, none⟩ (.int .i64 t792)).setCell ⟨gb794, 3, none⟩ (.int .i64 t793)).heap[gb748]? = some (.cells #[.int .i64 t743, .int .i64 t744, .int .i64 t745, .int .i64 t746] 37 (0, 0))) := ⟨pf BK748⟩
   have n8_ : Aside0 (((((w235.setCell ⟨gb794, 0, none⟩ (.int .i64 t790)).setCell ⟨gb794, 1, none⟩ (.int .i64 t791)).setCell ⟨gb794, 2, none⟩ (.int .i64 t792)).setCell ⟨gb794, 3, none⟩ (.int .i64 t793)).heap[gb754]? = some (.cells #[.int .i64 t749, .slice Ao183 t750.length co183] 28 (0, 0))) := ⟨pf BK754⟩
   have n9_ : Aside0 (((((w235.setCell ⟨gb794, 0, none⟩ (.int .i64 t790)).setCell ⟨gb794, 1, none⟩ (.int .i64 t791)).setCell ⟨gb794, 2, none⟩ (.int .i64 t792)).setCell ⟨gb794, 3, none⟩ (.int .i64 t793)).heap[gb760]? = some (.cells #[.int .i64 t755, .slice Ao192 t756.length co192] 28 (0, 0))) := ⟨pf BK760⟩
   have n10_ : Aside0 (((((w235.setCell ⟨gb794, 0, none⟩ (.int .i64 t790)).setCell ⟨gb794, 1, none⟩ (.int .i64 t791)).setCell ⟨gb794, 2, none⟩ (.int .i64 t792)).setCell ⟨gb794, 3, none⟩ (.int .i64 t793)).heap[gb766]? = some (.cells #[.int .i64 t761, .slice Ao200 t762.length co200] 28 (0, 0))) := ⟨pf BK766⟩
   have n11_ : Aside0 (((((w235.setCell ⟨gb794, 0, none⟩ (.int .i64 t790)).setCell ⟨gb794, 1, none⟩ (.int .i64 t791)).setCell ⟨gb794, 2, none⟩ (.int .i64 t792)).setCell ⟨gb794, 3, none⟩ (.int .i64 t793)).heap[gb772]? = some (.cells #[.int .i64 t767, .slice Ao209 t768.length co209] 28 (0, 0))) := ⟨pf BK772⟩
   have n12_ : Aside0 (((((w235.setCell ⟨gb794, 0, none⟩ (.int .i64 t790)).setCell ⟨gb794, 1, none⟩ (.int .i64 t791)).setCell ⟨gb794, 2, none⟩ (.int .i64 t792)).setCell ⟨gb794, 3, none⟩ (.int .i64 t793)).heap[gb778]? = some (.cells #[.int .i64 t773, .slice Ao220 t774.length co220] 28 (0, 0))) := ⟨pf BK778⟩
   have n13_ : Aside0 (((((w235.setCell ⟨gb794, 0, none⟩ (.int .i64 t790)).setCell ⟨gb794, 1, none⟩ (.int .i64 t791)).setCell ⟨gb794, 2, none⟩ (.int .i64 t792)).setCell ⟨gb794, 3, none⟩ (.int .i64 t793)).heap[gb784]? = some (.cells #[.int .i64 t779, .int .i64 t780, .int .i64 t781, .int .i64 t782] 37 (0, 0))) := ⟨pf BK784⟩
   have n14_ : Aside0 (((((w235.setCell ⟨gb794, 0, none⟩ (.int .i64 t790)).setCell ⟨gb794, 1, none⟩ (.int .i64 t791)).setCell ⟨gb794, 2, none⟩ (.int .i64 t792)).setCell ⟨gb794, 3, none⟩ (.int .i64 t793)).heap[gb794]? = some (.cells #[.int .i64 t790, .int .i64 t791, .int .i64 t792, .int .i64 t793] 37 (0, 0))) := ⟨pz BK794⟩
   have n15_ : Aside0 (Below w.heap.size w ((((w235.setCell ⟨gb794, 0, none⟩ (.int .i64 t790)).setCell ⟨gb794, 1, none⟩ (.int .i64 t791)).setCell ⟨gb794, 2, none⟩ (.int .i64 t792)).setCell ⟨gb794, 3, none⟩ (.int .i64 t793))) := ⟨bw⟩
   (try clear HO742)
   (try clear HO752)
   (try clear HO758)
   (try clear HO764)
   (try clear HO770)
   (try clear HO776)
   (try clear BK747)
   (try clear BK748)
   (try clear BK754)
   (try clear BK760)
   (try clear BK766)
   (try clear BK772)
   (try clear BK778)
   (try clear BK784)
   (try clear BK794)
   (try clear HB)
   generalize ((((w235.setCell ⟨gb794, 0, none⟩ (.int .i64 t790)).setCell ⟨gb794, 1, none⟩ (.int .i64 t791)).setCell ⟨gb794, 2, none⟩ (.int .i64 t792)).setCell ⟨gb794, 3, none⟩ (.int .i64 t793)) = w265 at n0_ n1_ n2_ n3_ n4_ n5_ n6_ n7_ n8_ n9_ n10_ n11_ n12_ n13_ n14_ n15_ ⊢
   have HO742 := n0_
   have HO752 := n1_
   have HO758 := n2_
   have HO764 := n3_
   have HO770 := n4_
   have HO776 := n5_
   have BK747 := n6_
   have BK748 := n7_
   have BK754 := n8_
   have BK760 := n9_
   have BK766 := n10_
   have BK772 := n11_
   have BK778 := n12_
   have BK784 := n13_
   have BK794 := n14_
   have HB := n15_
   clear n0_ n1_ n2_ n3_ n4_ n5_ n6_ n7_ n8_ n9_ n10_ n11_ n12_ n13_ n14_ n15_
   replace HO742 := Aside0.mk (Kd.R_drew HO742.out)
   replace HO752 := Aside0.mk (Kd.R_drew HO752.out)
   replace HO758 := Aside0.mk (Kd.R_drew HO758.out)
   replace HO764 := Aside0.mk (Kd.R_drew HO764.out)
   replace HO770 := Aside0.mk (Kd.R_drew HO770.out)
   replace HO776 := Aside0.mk (Kd.R_drew HO776.out)
   replace BK747 := Aside0.mk (blk_drew BK747.out)
   replace BK748 := Aside0.mk (blk_drew BK748.out)
   replace BK754 := Aside0.mk (blk_drew BK754.out)
   replace BK760 := Aside0.mk (blk_drew BK760.out)
   replace BK766 := Aside0.mk (blk_drew BK766.out)
   replace BK772 := Aside0.mk (blk_drew BK772.out)
   replace BK778 := Aside0.mk (blk_drew BK778.out)
   replace BK784 := Aside0.mk (blk_drew BK784.out)
   replace BK794 := Aside0.mk (blk_drew BK794.out)
   replace HB := Aside0.mk (below_drew1 HB.out)
   refine start_ (n := 49) (S := fun w' => w'.cell? ⟨gb754, 0, none⟩ = some (.int .i64 t749) ∧ w'.cell? ⟨gb754, 1, none⟩ = some (.slice Ao183 t750.length co183) ∧ w'.cell? ⟨gb760, 0, none⟩ = some (.int .i64 t755) ∧ w'.cell? ⟨gb760, 1, none⟩ = some (.slice Ao192 t756.length co192) ∧ w'.cell? ⟨gb772, 0, none⟩ = some (.int .i64 t767) ∧ w'.cell? ⟨gb772, 1, none⟩ = some (.slice Ao209 t768.length co209) ∧ w'.cell? ⟨gb778, 0, none⟩ = some (.int .i64 t773) ∧ w'.cell? ⟨gb778, 1, none⟩ = some (.slice Ao220 t774.length co220) ∧ w'.cell? ⟨gb794, 0, none⟩ = some (.int .i64 t790) ∧ w'.cell? ⟨gb794, 1, none⟩ = some (.int .i64 t791) ∧ w'.cell? ⟨gb794, 2, none⟩ = some (.int .i64 t792) ∧ w'.cell? ⟨gb794, 3, none⟩ = some (.int .i64 t793)) (ds := []) (tb 49 0) (by kernel_rfl) rfl rfl ⟨ec BK754, ec BK754, ec BK760, ec BK760, ec BK772, ec BK772, ec BK778, ec BK778, ec BK794, ec BK794, ec BK794, ec BK794⟩ (fun hHeld => ?_); refine with_tabW laws_FnRowsHidden.tab62 laws_FnRowsHidden.bits62 (fun HT_ HW_ => ?_)
   generalize w265.drew = w266 at HO742 HO752 HO758 HO764 HO770 HO776 BK747 BK748 BK754 BK760 BK766 BK772 BK778 BK784 BK794 HB hHeld ⊢
   refine pu 0 (some 385) (tb 49 1) ?_
   refine pu 1 (some 386) (tb 49 3) ?_
   refine pu 2 (some 387) (tb 49 7) ?_
   refine pu 3 (some 388) (tb 49 15) ?_
   refine tk 4 (some 389) (tb 49 31) (hT := HT_) (hB := HW_) hHeld ?_
   refine tk 5 (some 390) (tb 49 63) (hT := HT_) (hB := HW_) hHeld ?_
   refine one_ (i := 6) (N := some 391) (tb 49 127) rfl rfl (one_of HT_.out (by kernel_rfl)) (by decide) (fun K hK => ?_)
   refine go1 Tryz.func8 #[.agg #[.int .i64 t749, .slice Ao183 t750.length co183], .agg #[.int .i64 t755, .slice Ao192 t756.length co192]] ?_
   with_reducible refine (laws_vPuzzle.calls kj135 t749 _ _ t750 t755 _ _ t756 true _ ?side1 ?side2 ?side3 ?side4 A246.out).mono ?_
   (case side1 => exact rr HO752)
   (case side2 => exact rn HO752)
   (case side3 => exact rr HO758)
   (case side4 => exact rn HO758)
   rintro e w267 ⟨rfl, hb⟩
   refine ⟨_, rfl, ?_⟩
   replace HO742 := rl HO742 hb
   replace HO752 := rl HO752 hb
   replace HO758 := rl HO758 hb
   replace HO764 := rl HO764 hb
   replace HO770 := rl HO770 hb
   replace HO776 := rl HO776 hb
   replace BK747 := nk BK747 hb
   replace BK748 := nk BK748 hb
   replace BK754 := nk BK754 hb
   replace BK760 := nk BK760 hb
   replace BK766 := nk BK766 hb
   replace BK772 := nk BK772 hb
   replace BK778 := nk BK778 hb
   replace BK784 := nk BK784 hb
   replace BK794 := nk BK794 hb
   replace HB := bs hb
   (try clear hb)
   refine hK.out _ _ ⟨ec BK754, ec BK754, ec BK760, ec BK760, ec BK772, ec BK772, ec BK778, ec BK778, ec BK794, ec BK794, ec BK794, ec BK794⟩ (fun hHeld => ?_)
   clear hK K
   refine nm (some 391) ?_
   refine pu 7 (some 392) (tb 49 255) ?_
   refine pu 8 (some 393) (tb 49 511) ?_
   refine pu 9 (some 394) (tb 49 1023) ?_
   refine pu 10 (some 395) (tb 49 2047) ?_
   refine pu 11 (some 396) (tb 49 4095) ?_
   refine pu 12 (some 397) (tb 49 8191) ?_
   refine pu 13 (some 398) (tb 49 16383) ?_
   refine pu 14 (some 399) (tb 49 32767) ?_
   refine tk 15 (some 400) (tb 49 65535) (hT := HT_) (hB := HW_) hHeld ?_
   refine tk 16 (some 401) (tb 49 131071) (hT := HT_) (hB := HW_) hHeld ?_
   refine one_ (i := 17) (N := some 402) (tb 49 262143) rfl rfl (one_of HT_.out (by kernel_rfl)) (by decide) (fun K hK => ?_)
   refine go1 Tryz.func8 #[.agg #[.int .i64 t767, .slice Ao209 t768.length co209], .agg #[.int .i64 t773, .slice Ao220 t774.length co220]] ?_
   with_reducible refine (laws_vPuzzle.calls kj135 t767 _ _ t768 t773 _ _ t774 true _ ?side1 ?side2 ?side3 ?side4 A249.out).mono ?_
   (case side1 => exact rr HO770)
   (case side2 => exact rn HO770)
   (case side3 => exact rr HO776)
   (case side4 => exact rn HO776)
   rintro e w268 ⟨rfl, hb⟩
   refine ⟨_, rfl, ?_⟩
   replace HO742 := rl HO742 hb
   replace HO752 := rl HO752 hb
   replace HO758 := rl HO758 hb
   replace HO764 := rl HO764 hb
   replace HO770 := rl HO770 hb
   replace HO776 := rl HO776 hb
   replace BK747 := nk BK747 hb
   replace BK748 := nk BK748 hb
   replace BK754 := nk BK754 hb
   replace BK760 := nk BK760 hb
   replace BK766 := nk BK766 hb
   replace BK772 := nk BK772 hb
   replace BK778 := nk BK778 hb
   replace BK784 := nk BK784 hb
   replace BK794 := nk BK794 hb
   replace HB := bs hb
   (try clear hb)
   refine hK.out _ _ ⟨ec BK754, ec BK754, ec BK760, ec BK760, ec BK772, ec BK772, ec BK778, ec BK778, ec BK794, ec BK794, ec BK794, ec BK794⟩ (fun hHeld => ?_)
   clear hK K
   refine nm (some 402) ?_
   refine pu 18 (some 403) (tb 49 524287) ?_
   refine pu 19 (some 404) (tb 49 1048575) ?_
   refine pu 20 (some 405) (tb 49 2097151) ?_
   refine pu 21 (some 406) (tb 49 4194303) ?_
   refine pu 22 (some 407) (tb 49 8388607) ?_
   refine pu 23 (some 408) (tb 49 16777215) ?_
   refine pu 24 (some 409) (tb 49 33554431) ?_
   refine pu 25 (some 410) (tb 49 67108863) ?_
   refine pu 26 (some 411) (tb 49 134217727) ?_
   refine pu 27 (some 412) (tb 49 268435455) ?_
   refine pu 28 (some 413) (tb 49 536870911) ?_
   refine pu 29 (some 414) (tb 49 1073741823) ?_
   refine pu 30 (some 415) (tb 49 2147483647) ?_
   refine pu 31 (some 416) (tb 49 4294967295) ?_
   refine pu 34 (some 419) (tb 49 21474836479) ?_
   refine tk 32 (some 417) (tb 49 25769803775) (hT := HT_) (hB := HW_) hHeld ?_
   refine tk 35 (some 420) (tb 49 60129542143) (hT := HT_) (hB := HW_) hHeld ?_
   refine one_ (i := 33) (N := some 418) (tb 49 68719476735) rfl rfl (one_of HT_.out (by kernel_rfl)) (by decide) (fun K hK => ?_)
   refine go1 Tryz.func31 #[.int .i64 t789, .agg #[.int .i64 t790, .int .i64 t791, .int .i64 t792, .int .i64 t793]] ?_
   with_reducible refine (impl_IsClue.calls t789 t790 t791 t792 t793 t797 _ A253.out).mono ?_
   rintro e w269 ⟨rfl, hb⟩
   refine ⟨_, rfl, ?_⟩
   replace HO742 := rl HO742 hb
   replace HO752 := rl HO752 hb
   replace HO758 := rl HO758 hb
   replace HO764 := rl HO764 hb
   replace HO770 := rl HO770 hb
   replace HO776 := rl HO776 hb
   replace BK747 := nk BK747 hb
   replace BK748 := nk BK748 hb
   replace BK754 := nk BK754 hb
   replace BK760 := nk BK760 hb
   replace BK766 := nk BK766 hb
   replace BK772 := nk BK772 hb
   replace BK778 := nk BK778 hb
   replace BK784 := nk BK784 hb
   replace BK794 := nk BK794 hb
   replace HB := bs hb
   (try clear hb)
   refine hK.out _ _ ⟨ec BK754, ec BK754, ec BK760, ec BK760, ec BK772, ec BK772, ec BK778, ec BK778, ec BK794, ec BK794, ec BK794, ec BK794⟩ (fun hHeld => ?_)
   clear hK K
   refine nm (some 418) ?_
   refine one_ (i := 36) (N := some 421) (tb 49 137438953471) rfl rfl (one_of HT_.out (by kernel_rfl)) (by decide) (fun K hK => ?_)
   refine go1 Tryz.func32 #[.int .i64 t789, .agg #[.int .i64 t790, .int .i64 t791, .int .i64 t792, .int .i64 t793]] ?_
   with_reducible refine (spec_IsClue.calls t789 t790 t791 t792 t793 t798 _ A254.out).mono ?_
   rintro e w270 ⟨rfl, hb⟩
   refine ⟨_, rfl, ?_⟩
   replace HO742 := rl HO742 hb
   replace HO752 := rl HO752 hb
   replace HO758 := rl HO758 hb
   replace HO764 := rl HO764 hb
   replace HO770 := rl HO770 hb
   replace HO776 := rl HO776 hb
   replace BK747 := nk BK747 hb
   replace BK748 := nk BK748 hb
   replace BK754 := nk BK754 hb
   replace BK760 := nk BK760 hb
   replace BK766 := nk BK766 hb
   replace BK772 := nk BK772 hb
   replace BK778 := nk BK778 hb
   replace BK784 := nk BK784 hb
   replace BK794 := nk BK794 hb
   replace HB := bs hb
   (try clear hb)
   refine hK.out _ _ ⟨ec BK754, ec BK754, ec BK760, ec BK760, ec BK772, ec BK772, ec BK778, ec BK778, ec BK794, ec BK794, ec BK794, ec BK794⟩ (fun hHeld => ?_)
   clear hK K
   refine nm (some 421) ?_
   refine pu 37 (some 422) (tb 49 274877906943) ?_
   refine pu 38 (some 423) (tb 49 549755813887) ?_
   refine pu 39 (some 424) (tb 49 1099511627775) ?_
   refine pu 40 (some 425) (tb 49 2199023255551) ?_
   refine pu 41 (some 426) (tb 49 4398046511103) ?_
   refine pure_ (i := 42) (N := some 427) (v := undef) (a' := ?_) (tb 49 8796093022207) rfl rfl (any_of HT_.out (by kernel_rfl)) (fun _ _ _ h => h) (Or.inr ⟨by rfl, rfl⟩) ?_ ?_
   rotate_left
   ·simp only [Act.put, List.setIfInBounds_toArray, List.set_cons_zero, List.set_cons_succ, i64_w, i32_w]
    rfl
   refine pure_ (i := 43) (N := some 428) (v := undef) (a' := ?_) (tb 49 17592186044415) rfl rfl (any_of HT_.out (by kernel_rfl)) (fun _ _ _ h => h) (Or.inr ⟨by rfl, rfl⟩) ?_ ?_
   rotate_left
   ·simp only [Act.put, List.setIfInBounds_toArray, List.set_cons_zero, List.set_cons_succ, i64_w, i32_w]
    rfl
   refine pure_ (i := 44) (N := some 429) (v := undef) (a' := ?_) (tb 49 35184372088831) rfl rfl (any_of HT_.out (by kernel_rfl)) (fun _ _ _ h => h) (Or.inr ⟨by rfl, rfl⟩) ?_ ?_
   rotate_left
   ·simp only [Act.put, List.setIfInBounds_toArray, List.set_cons_zero, List.set_cons_succ, i64_w, i32_w]
    rfl
   refine pure_ (i := 45) (N := some 430) (v := undef) (a' := ?_) (tb 49 70368744177663) rfl rfl (any_of HT_.out (by kernel_rfl)) (fun _ _ _ h => h) (Or.inr ⟨by rfl, rfl⟩) ?_ ?_
   rotate_left
   ·simp only [Act.put, List.setIfInBounds_toArray, List.set_cons_zero, List.set_cons_succ, i64_w, i32_w]
    rfl
   refine pure_ (i := 46) (N := some 431) (v := undef) (a' := ?_) (tb 49 140737488355327) rfl rfl (any_of HT_.out (by kernel_rfl)) (fun _ _ _ h => h) (Or.inr ⟨by rfl, rfl⟩) ?_ ?_
   rotate_left
   ·simp only [Act.put, List.setIfInBounds_toArray, List.set_cons_zero, List.set_cons_succ, i64_w, i32_w]
    rfl
   refine pu 47 (some 432) (tb 49 281474976710655) ?_
   refine pu 48 (some 433) (tb 49 562949953421311) ?_
   refine done_ (done_of HT_.out (by kernel_rfl)) ?_
   try go_wp2
   go_meet
   case rel => exact ⟨_, (false), (rs), H', ⟨by have := HJ10.out; have := HJ99.out; have := HJ135.out; first | omega | exact Nat.le_refl _⟩, ⟨by (with_reducible repeat (first | apply Kd.R_alloc | apply Kd.R_drewN | apply Kd.R_drew)); exact Kd.R_mono HO742.out (fun _ hk => ⟨hk.1, ⟨hk.2.2.1, ⟨hk.2.2.2.1, hk.2.2.2.2.2.1⟩⟩⟩)⟩, ⟨by (with_reducible repeat (first | apply Kd.R_alloc | apply Kd.R_drewN | apply Kd.R_drew)); exact Kd.R_mono HO752.out (fun _ hk => ⟨hk.1, ⟨hk.2.2.1, ⟨hk.2.2.2.1, hk.2.2.2.2.2.1⟩⟩⟩)⟩, ⟨by (with_reducible repeat (first | apply Kd.R_alloc | apply Kd.R_drewN | apply Kd.R_drew)); exact Kd.R_mono HO764.out (fun _ hk => ⟨hk.1, ⟨hk.2.1, ⟨hk.2.2.2.1, hk.2.2.2.2.2.1⟩⟩⟩)⟩, ⟨by (with_reducible repeat (first | apply Kd.R_alloc | apply Kd.R_drewN | apply Kd.R_drew)); exact Kd.R_mono HO770.out (fun _ hk => ⟨hk.1, ⟨hk.2.1, ⟨hk.2.2.2.1, hk.2.2.2.2.2.1⟩⟩⟩)⟩, ⟨pk BK747⟩, ⟨pk BK748⟩, ⟨pk BK754⟩, ⟨pk BK766⟩, ⟨pk BK772⟩, ⟨bw⟩⟩
  case rest =>
   clear HC170
   repeat (first|clear c25)
   obtain ⟨kq, x433_169, rfl, HA, HJ169, HO_748001, HO_755001, HO_767001, HO_773001, BK747, BK748, BK754, BK766, BK772, HB⟩ := hcut
   go_step
   exact laws_FnRowsHidden.r4 HRT HJ10 HJ99 HJ135 A161 A164 NB747_748 NB754_747 NB754_748 NB747_766 NB754_766 NB747_772 NB754_772 NB766_772 hz210 HO742 HO752 HO758 HO764 HO770 HO776 (by assumption) HA HJ169 HO_748001 HO_755001 HO_767001 HO_773001 BK747 BK748 BK754 BK766 BK772 HB

end Go.Proofs.YthjbmojacgkdcaaGreatDoor.PFnRowsHidden
