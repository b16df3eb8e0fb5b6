-- Laid by xprint, a program of this session that runs over the kit's print.
import Derived.Test.YtfaakdokcldnkaaGreatDoorPFnRowsGuessedOfAllx21
namespace Go.Proofs.YtfaakdokcldnkaaGreatDoor.PFnRowsGuessedOfAll
open Go.RowKit Go.Proofs.YtfaakdokcldnkaaGreatDoorW.PrintWords Go.Proofs.YtfaakdokcldnkaaGreatDoorW.PrintLast Go.Proofs.YtfaakdokcldnkaaGreatDoorW.PrintMore Go.Proofs.YtfaakdokcldnkaaGreatDoor.Sq
attribute [local go_sem] max2_int min2_int max_two min_two max_three min_three max_four min_four   -- for this text's walks alone
set_option linter.unusedVariables false
set_option linter.unusedSimpArgs false

-- the words again, with a search that unfolds nothing first
def gv : List Value → Nat → Value
  | [], _ => undef
  | x :: _, 0 => x
  | _ :: l, n + 1 => gv l n
theorem gv_eq (l : List Value) (i : Nat) : l.toArray.getD i undef = gv l i := by
  induction l generalizing i with
  | nil => simp [gv]
  | cons x l ih =>
    cases i with
    | zero => simp [gv]
    | succ i => rw [gv, ← ih]; simp
theorem evL (l : List Value) (d : List Deferred) (i : Nat) : Act.eval ⟨l.toArray, d⟩ (.tmp i) = gv l i := gv_eq l i
section
variable (x0 x1 x2 x3 x4 x5 x6 x7 x8 x9 x10 x11 x12 x13 x14 x15 x16 x17 x18 x19 x20 x21 x22 x23 x24 x25 x26 x27 x28 x29 x30 x31 : Value) (l : List Value) (n : Nat) (v : Value)
theorem gv32 : gv (x0 :: x1 :: x2 :: x3 :: x4 :: x5 :: x6 :: x7 :: x8 :: x9 :: x10 :: x11 :: x12 :: x13 :: x14 :: x15 :: x16 :: x17 :: x18 :: x19 :: x20 :: x21 :: x22 :: x23 :: x24 :: x25 :: x26 :: x27 :: x28 :: x29 :: x30 :: x31 :: l) (n + 32) = gv l n := rfl
theorem set32 : List.set (x0 :: x1 :: x2 :: x3 :: x4 :: x5 :: x6 :: x7 :: x8 :: x9 :: x10 :: x11 :: x12 :: x13 :: x14 :: x15 :: x16 :: x17 :: x18 :: x19 :: x20 :: x21 :: x22 :: x23 :: x24 :: x25 :: x26 :: x27 :: x28 :: x29 :: x30 :: x31 :: l) (n + 32) v = x0 :: x1 :: x2 :: x3 :: x4 :: x5 :: x6 :: x7 :: x8 :: x9 :: x10 :: x11 :: x12 :: x13 :: x14 :: x15 :: x16 :: x17 :: x18 :: x19 :: x20 :: x21 :: x22 :: x23 :: x24 :: x25 :: x26 :: x27 :: x28 :: x29 :: x30 :: x31 :: List.set l n v := rfl
theorem gv1 (x : Value) : gv (x :: l) (n + 1) = gv l n := rfl
theorem gv0 (x : Value) : gv (x :: l) 0 = x := rfl
end
section
variable {w W W0 W1 W2 : World} {g q : Nat} {o : Obj}
theorem bw (h : Below w.heap.size w W := by repeat (first | (with_reducible first | exact HB.out | apply below_alloc | apply pw_below_drewN | apply below_drew1 | refine below_set ?_ (Aside0.out (by first | (with_reducible assumption) | assumption))) | exact HB.out)) : Below w.heap.size w W := h
theorem bs (hb : Below W.heap.size W W2) (h : Below w.heap.size w W := by repeat (first | (with_reducible first | exact HB.out | apply below_alloc | apply pw_below_drewN | apply below_drew1 | refine below_set ?_ (Aside0.out (by first | (with_reducible assumption) | assumption))) | exact HB.out)) : Aside0 (Below w.heap.size w W2) := ⟨below_step h hb⟩
theorem gs (hg : g = W.heap.size) (h : Below w.heap.size w W := by repeat (first | (with_reducible first | exact HB.out | apply below_alloc | apply pw_below_drewN | apply below_drew1 | refine below_set ?_ (Aside0.out (by first | (with_reducible assumption) | assumption))) | exact HB.out)) : Aside0 (w.heap.size ≤ g) := ⟨by rw [hg]; exact below_size h⟩
theorem pk (_h : Aside0 (W0.heap[g]? = some o)) (h : W.heap[g]? = some o := by (with_reducible repeat (first | refine blk_drewN ?_ _ | refine blk_drew ?_ | refine blk_alloc ?_ _)); exact Aside0.out (by first | (with_reducible assumption) | assumption)) : W.heap[g]? = some o := h
theorem nk (_h : Aside0 (W0.heap[g]? = some o)) (hb : Below W1.heap.size W1 W2) (h : W1.heap[g]? = some o := by (with_reducible repeat (first | refine blk_drewN ?_ _ | refine blk_drew ?_ | refine blk_alloc ?_ _)); exact Aside0.out (by first | (with_reducible assumption) | assumption)) : Aside0 (W2.heap[g]? = some o) := ⟨blk_below h hb⟩
theorem pr {α : Type} {d : Kd α} {e base : Nat} {ok : Nat → Prop} {v : Value} {xs : List α} (_h : Aside0 (Kd.R d e W0 base ok v xs)) (h : Kd.R d e W base ok v xs := by (with_reducible repeat (first | apply Kd.R_alloc | apply Kd.R_drewN | apply Kd.R_drew)); exact Aside0.out (by first | (with_reducible assumption) | assumption)) : Kd.R d e W base ok v xs := h
theorem nf (_h : Aside0 (W0.heap[g]? = some o)) (hb : Below W1.heap.size W1 W2) (h : W1.heap[g]? = some o := by (with_reducible repeat (first | refine blk_drewN ?_ _ | refine blk_drew ?_ | refine blk_alloc ?_ _)); (repeat (refine blk_far ?_ (Aside0.out (by first | (with_reducible assumption) | assumption)) _; (with_reducible repeat (first | refine blk_drewN ?_ _ | refine blk_drew ?_ | refine blk_alloc ?_ _)))); exact Aside0.out (by first | (with_reducible assumption) | assumption)) : Aside0 (W2.heap[g]? = some o) := ⟨blk_below h hb⟩
end
section
variable {w W W0 W1 W2 : World} {g q : Nat} {o : Obj}
variable {α : Type} {d : Kd α} {e base t i j k l : Nat} {ok : Nat → Prop} {v u1 u2 u3 u4 : Value} {xs : List α} {cs : Array Value}
theorem qf (_h : Aside0 (Kd.R d e W0 base ok v xs)) (h : Kd.R d e W base ok v xs := by (with_reducible repeat (first | apply Kd.R_alloc | apply Kd.R_drewN | apply Kd.R_drew)); first | exact rf2_ (by first | (with_reducible assumption) | assumption) (by first | (with_reducible assumption) | assumption) (by decide) | exact rf4_ (by first | (with_reducible assumption) | assumption) (by first | (with_reducible assumption) | assumption) (by decide) | exact rf1_ (by first | (with_reducible assumption) | assumption) (by first | (with_reducible assumption) | assumption) (by decide)) : Kd.R d e W base ok v xs := h
end
section
variable {w W W0 W1 W2 : World} {g q : Nat} {o : Obj}
theorem cb {α : Type} {K : Kd α} {A : Option Addr} {n : Nat} {l : List α} (_h : Aside0 (Kd.C K w A n l)) (h : Kd.C K W A n l := by repeat (first | exact (Kd.C_below (Aside0.out (by first | (with_reducible assumption) | assumption)) (Aside0.out (by first | (with_reducible assumption) | assumption))) | (with_reducible refine Kd.C_alloc ?_ _) | (with_reducible refine Kd.C_drewN ?_ _) | (with_reducible refine Kd.C_drew ?_))) : Kd.C K W A n l := h
end
section
variable {P : Program} {md : Region.Mode} {ops : Array Oper} {Q : Exit → Act → World → Prop} {S : World → Prop} {ds : List Nat}
theorem pu {T : Bool × List (List Nat × List Nat)} (i : Nat) (N : Option Tmp) {oi : Oper} {v : Value} {fuel : Nat} {l : Array Bool} {a : Act} {w : World} (l' : Array Bool) {a' : Act} (h : wpAnyLast P md ops Q S ds fuel l' a' w) (hT : Aside0 (rtab md ops = T) := by first | (with_reducible assumption) | assumption) (hi : ops[i]? = some oi := by rfl) (hN : oi.dst = N := by rfl)
    (hc : anyT T l.toList l'.toList i = true := by kernel_rfl) (hQ : ∀ c a w, Q (.panic c) (a.put oi.dst v) w → Q (.panic c) a w := by exact fun _ _ _ h => h) (hq : Region.wanted oi (yielded ops a.tmps) = true ∧ ∀ w' : World, (execOp a.eval oi).run P w' = .ok (.value v) w' := by exact ⟨by rfl, by intro w'; first | ((conv in (execOp _ _) => arg 2; whnf); simp only [execOp, evL, gv32]; (try simp only [gv1, gv0]); go_simp; with_reducible rfl) | (go_simp; with_reducible rfl)⟩)
    (ha : a.put N v = a' := by simp only [Act.put, List.setIfInBounds_toArray, set32]; (try simp only [List.set_cons_zero, List.set_cons_succ, i64_w, i32_w]); rfl) : wpAnyLast P md ops Q S ds (fuel + 1) l a w := by
  exact pure_ l' hi hN (any_of hT.out hc) hQ (Or.inl hq) ha h
end
section
variable {α β : Type} {w W W0 W1 W2 : World} {d : Kd α} {f : Kd β} {e e2 base base2 g n c t i j k : Nat} {ok ok2 : Nat → Prop} {v u u1 u2 u3 : Value} {xs : List α} {ys : List β} {A : Option Addr} {row : Option Nat} {cs : Array Value}
theorem rl (_h : Aside0 (Kd.R d e W0 base ok v xs)) (hb : Below W1.heap.size W1 W2) (h : Kd.R d e W1 base ok v xs := by (with_reducible repeat (first | apply Kd.R_alloc | apply Kd.R_drewN | apply Kd.R_drew)); exact Aside0.out (by first | (with_reducible assumption) | assumption)) : Aside0 (Kd.R d e W2 base ok v xs) := ⟨Kd.R_below h hb⟩
theorem re (_h : Aside0 (Kd.R d e W0 base ok v xs)) (ho : Kd.R f e2 W2 W1.heap.size ok2 u ys) (hb : Below W1.heap.size W1 W2) (h : Kd.R d e W1 base ok v xs := by (with_reducible repeat (first | apply Kd.R_alloc | apply Kd.R_drewN | apply Kd.R_drew)); exact Aside0.out (by first | (with_reducible assumption) | assumption)) : Aside0 (Kd.R d e W2 base (fun k => ok k ∧ some k ≠ u.ownBlock) v xs) := ⟨Kd.R_elder' h (Kd.R_base ho) hb⟩
theorem rr (_h : Aside0 (Kd.R d e W0 base ok (.slice A n c) xs)) (h : Kd.C d W A xs.length xs := by repeat (first | exact (Kd.R_reads' (Aside0.out (by first | (with_reducible assumption) | assumption))).2.2 | (with_reducible refine Kd.C_alloc ?_ _) | (with_reducible refine Kd.C_drewN ?_ _) | (with_reducible refine Kd.C_drew ?_))) : Kd.C d W A xs.length xs := h
end
section
variable {w W W0 W1 W2 : World} {g q t i : Nat} {o o0 : Obj} {cs cs' : Array Value} {u a b c d : Value} {ab : Nat × Nat} {row : Option Nat}
theorem pz (_h : Aside0 (W0.heap[g]? = some o0)) (h : W.heap[g]? = some o := by (with_reducible repeat (first | apply b1 | apply b2 | apply b3 | apply bp | (apply bf; (case hp => first | (with_reducible assumption) | assumption)) | exact Aside0.out (by first | (with_reducible assumption) | assumption))); all_goals rfl) : W.heap[g]? = some o := h
theorem nn (_h : Aside0 (W0.heap[g]? = some o)) (hg : q = W.heap.size) (h : W.heap[g]? = some o := by exact pk (by first | (with_reducible assumption) | assumption)) : Aside0 (g ≠ q) ∧ Aside0 (q ≠ g) := ⟨⟨by rw [hg]; exact Nat.ne_of_lt (blk_lt h)⟩, ⟨by rw [hg]; exact Nat.ne_of_gt (blk_lt h)⟩⟩
end
section
variable {P : Program} {md : Region.Mode} {ops : Array Oper} {Q : Exit → Act → World → Prop} {S : World → Prop} {ds : List Nat}
theorem tk {T : Bool × List (List Nat × List Nat)} {B : List Nat} (i : Nat) (N : Option Tmp) {oi : Oper} {v : Value} {fuel : Nat} {l : Array Bool} {a : Act} {w : World} (l' : Array Bool) {a' : Act} (hS : S w) (h : wpAnyLast P md ops Q S ds fuel l' a' w) (hT : Aside0 (rtab md ops = T) := by first | (with_reducible assumption) | assumption) (hB : Aside0 (waitsOk T.2 B = true) := by first | (with_reducible assumption) | assumption) (hi : ops[i]? = some oi := by rfl) (hN : oi.dst = N := by rfl)
    (hc : takeW T B ds l.toList l'.toList i = true := by kernel_rfl) (hQ : ∀ c a w, Q (.panic c) (a.put oi.dst v) w → Q (.panic c) a w := by exact fun _ _ _ h => h) (hq : Region.wanted oi (yielded ops a.tmps) = true ∧ ∀ w' : World, S w' → (execOp a.eval oi).run P w' = .ok (.value v) w' := by exact ⟨by rfl, by intro w' hs_; (try dsimp only at hs_); go_simp; with_reducible rfl⟩)
    (ha : a.put N v = a' := by simp only [Act.put, List.setIfInBounds_toArray, set32]; (try simp only [List.set_cons_zero, List.set_cons_succ, i64_w, i32_w]); rfl) : wpAnyLast P md ops Q S ds (fuel + 1) l a w :=
  take_ l' hi hN (take_ofW hT.out hB.out hc) hQ (Or.inl hq) hS ha h
end
/-! ### laws_FnRowsGuessedOfAll: its contract -/
def cd : List Nat → Code → Code
  | [], c => c
  | 0 :: p, .seq a _ => cd p a
  | 1 :: p, .seq _ b => cd p b
  | 0 :: p, .cond _ a _ => cd p a
  | 1 :: p, .cond _ _ b => cd p b
  | 0 :: p, .block _ a => cd p a
  | 0 :: p, .loop a => cd p a
  | 0 :: p, .scope a => cd p a
  | _, c => c
/-- The code at a place of a function's body. -/
def cdd (f : Func) (p : List Nat) : Code := cd p (f.body.getD .skip)

end Go.Proofs.YtfaakdokcldnkaaGreatDoor.PFnRowsGuessedOfAll
