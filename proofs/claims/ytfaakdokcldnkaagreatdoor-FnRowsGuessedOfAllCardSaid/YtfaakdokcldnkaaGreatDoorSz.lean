/- More short words for the steps of the walks. No condition. -/
import Derived.Test.YtfaakdokcldnkaaGreatDoorSq
namespace Go.Proofs.YtfaakdokcldnkaaGreatDoor.Sq
open Go.RowKit Go.Proofs.YtfaakdokcldnkaaGreatDoorW.PrintWords Go.Proofs.YtfaakdokcldnkaaGreatDoorW.PrintLast Go.Proofs.YtfaakdokcldnkaaGreatDoorW.PrintMore
section
variable {α β : Type} {w W W0 W1 W2 : World} {d : Kd α} {f : Kd β} {e e2 base base2 g n c t i j k : Nat} {ok ok2 : Nat → Prop} {v u u1 u2 u3 : Value} {xs : List α} {ys : List β} {A : Option Addr} {row : Option Nat} {cs : Array Value}
theorem rl (_h : Aside0 (Kd.R d e W0 base ok v xs)) (hb : Below W1.heap.size W1 W2) (h : Kd.R d e W1 base ok v xs := by (with_reducible repeat (first | apply Kd.R_alloc | apply Kd.R_drewN | apply Kd.R_drew)); exact Aside0.out (by assumption)) : Aside0 (Kd.R d e W2 base ok v xs) := ⟨Kd.R_below h hb⟩
theorem re (_h : Aside0 (Kd.R d e W0 base ok v xs)) (ho : Kd.R f e2 W2 W1.heap.size ok2 u ys) (hb : Below W1.heap.size W1 W2) (h : Kd.R d e W1 base ok v xs := by (with_reducible repeat (first | apply Kd.R_alloc | apply Kd.R_drewN | apply Kd.R_drew)); exact Aside0.out (by assumption)) : Aside0 (Kd.R d e W2 base (fun k => ok k ∧ some k ≠ u.ownBlock) v xs) := ⟨Kd.R_elder' h (Kd.R_base ho) hb⟩
theorem rr (_h : Aside0 (Kd.R d e W0 base ok (.slice A n c) xs)) (h : Kd.C d W A xs.length xs := by repeat (first | exact (Kd.R_reads' (Aside0.out (by assumption))).2.2 | (with_reducible refine Kd.C_alloc ?_ _) | (with_reducible refine Kd.C_drewN ?_ _) | (with_reducible refine Kd.C_drew ?_))) : Kd.C d W A xs.length xs := h
theorem rn (h : Aside0 (Kd.R d e W0 base ok (.slice A n c) xs)) : n ≤ c := (Kd.R_reads' h.out).2.1
theorem cr (_h : Aside0 (Kd.C d W0 A n xs)) (h : Kd.C d W A n xs := by repeat (first | exact Aside0.out (by assumption) | (with_reducible refine Kd.C_alloc ?_ _) | (with_reducible refine Kd.C_drewN ?_ _) | (with_reducible refine Kd.C_drew ?_))) : Kd.C d W A n xs := h
theorem rf3_ (h : Aside0 (Kd.R d e W base ok v xs)) (hb : Aside0 (W.heap[g]? = some (.cells cs t (0, 0)))) (hd : ∀ q, q ∈ e :: d.E → q ≠ t) : Kd.R d e (((W.setCell ⟨g, i, none⟩ u1).setCell ⟨g, j, none⟩ u2).setCell ⟨g, k, none⟩ u3) base ok v xs := Kd.R_mono (Kd.R_far (p := ⟨g, k, none⟩) (Kd.R_far (p := ⟨g, j, none⟩) (Kd.R_far (p := ⟨g, i, none⟩) (Kd.R_types h.out hb.out hd) (fun _ hk => hk.2) u1) (fun _ hk => hk.2) u2) (fun _ hk => hk.2) u3) (fun _ hk => hk.1)
theorem qf3 (_h : Aside0 (Kd.R d e W0 base ok v xs)) (h : Kd.R d e W base ok v xs := by (with_reducible repeat (first | apply Kd.R_alloc | apply Kd.R_drewN | apply Kd.R_drew)); exact rf3_ (by assumption) (by assumption) (by decide)) : Kd.R d e W base ok v xs := h
theorem prN (_h : Aside0 (Kd.N d e W0 base ok v xs)) (h : Kd.N d e W base ok v xs := by (with_reducible repeat (first | apply Kd.N_alloc | apply Kd.N_drewN | apply Kd.N_drew)); exact Aside0.out (by assumption)) : Kd.N d e W base ok v xs := h
theorem hkk (h : KeepBut w W g row := by repeat (first | (with_reducible first | exact HK.out | apply KeepBut.set_ | apply keep_drewN | apply keep_drew | apply keep_alloc | refine keep_far ?_ (Aside0.out (by assumption)) _) | exact HK.out)) : KeepBut w W g row := h
theorem kt (_h : Aside0 (KeepBut w W0 g row)) (hk : KeepBut W W2 g row) (h : KeepBut w W g row := by exact hkk) : Aside0 (KeepBut w W2 g row) := ⟨KeepBut.trans h hk (.inl rfl)⟩
end
theorem ob {α β : Type} {x : Option α} {f : α → Option β} {r : β} (h : x.bind f = some r) : ∃ t, Aside0 (x = some t) ∧ f t = some r := by
  obtain ⟨t, h1, h2⟩ := Option.bind_eq_some_iff.mp h
  exact ⟨t, ⟨h1⟩, h2⟩
section
variable {α : Type} {p : Prop} [Decidable p] {a : Option α} {r : α} {b : Option Bool} {s : Bool}
theorem oi (h : (if p then a else none) = some r) : p ∧ a = some r := by
  by_cases c : p
  · rw [if_pos c] at h; exact ⟨c, h⟩
  · rw [if_neg c] at h; exact absurd h (by simp)
theorem oe (h : (if p then none else a) = some r) : ¬p ∧ a = some r := by
  by_cases c : p
  · rw [if_pos c] at h; exact absurd h (by simp)
  · rw [if_neg c] at h; exact ⟨c, h⟩
theorem ofr (hr : Aside0 (s = true)) (h : (if p then b else some false) = some s) : p ∧ b = some s := by
  by_cases c : p
  · rw [if_pos c] at h; exact ⟨c, h⟩
  · rw [if_neg c] at h; exact absurd (Option.some.inj h) (by rw [hr.out]; decide)
theorem ofl (hr : Aside0 (s = true)) (h : (if p then some false else b) = some s) : ¬p ∧ b = some s := by
  by_cases c : p
  · rw [if_pos c] at h; exact absurd (Option.some.inj h) (by rw [hr.out]; decide)
  · rw [if_neg c] at h; exact ⟨c, h⟩
end
section
variable {w : World} {g : Nat} {o : Obj}
theorem b1 {n : Nat} (h : w.heap[g]? = some o) : (w.drewN n).heap[g]? = some o := blk_drewN h n
theorem b2 (h : w.heap[g]? = some o) : w.drew.heap[g]? = some o := blk_drew h
theorem b3 {q : Obj} (h : w.heap[g]? = some o) : (w.alloc q).heap[g]? = some o := blk_alloc h q
end
theorem halt {p : Prop} (h : Aside0 p) : p := h.out
theorem zz {p : Prop} (h : p := by first | exact ⟨rfl, _, World.drewN_drewN _ _ _⟩ | exact ⟨rfl, _, Eq.trans (World.drewN_drewN _ _ _) (congrArg (World.drewN _) (Nat.add_assoc _ _ _))⟩) : p := h
theorem asm {p : Prop} (h : p := by first | (with_reducible assumption) | assumption) : p := h
section
variable {w W W0 W1 W2 : World} {g q t i : Nat} {o o0 : Obj} {cs cs' : Array Value} {u a b c d : Value} {ab : Nat × Nat} {row : Option Nat}
theorem bp (h : w.heap[g]? = some (.cells cs t (0, 0))) (e : cs.setIfInBounds i u = cs') : (w.setCell ⟨g, i, none⟩ u).heap[g]? = some (.cells cs' t (0, 0)) := blk_put h i u e
theorem bf (h : w.heap[g]? = some (.cells cs t (0, 0))) (hp : Aside0 (g ≠ q)) : (w.setCell ⟨q, i, none⟩ u).heap[g]? = some (.cells cs t (0, 0)) := blk_far h hp.out u
theorem pz (_h : Aside0 (W0.heap[g]? = some o0)) (h : W.heap[g]? = some o := by (with_reducible repeat (first | apply b1 | apply b2 | apply b3 | apply bp | (apply bf; (case hp => assumption)) | exact Aside0.out (by assumption))); all_goals rfl) : W.heap[g]? = some o := h
theorem kb (hk : KeepBut W W2 g row) (_h : Aside0 (W0.heap[q]? = some o)) (nb : Aside0 (q ≠ g)) (h : W.heap[q]? = some o := by exact pf (by assumption)) (hr : some q ≠ row := by simp) : Aside0 (W2.heap[q]? = some o) := ⟨KeepBut.blk hk h nb.out hr⟩
theorem kz (hk : KeepBut W W2 g row) (o : Obj) (_h : Aside0 (W0.heap[q]? = some o0)) (nb : Aside0 (q ≠ g)) (h : W.heap[q]? = some o := by exact pz (by assumption)) (hr : some q ≠ row := by simp) : Aside0 (W2.heap[q]? = some o) := ⟨KeepBut.blk hk h nb.out hr⟩
theorem nn (_h : Aside0 (W0.heap[g]? = some o)) (hg : q = W.heap.size) (h : W.heap[g]? = some o := by exact pk (by assumption)) : Aside0 (g ≠ q) ∧ Aside0 (q ≠ g) := ⟨⟨by rw [hg]; exact Nat.ne_of_lt (blk_lt h)⟩, ⟨by rw [hg]; exact Nat.ne_of_gt (blk_lt h)⟩⟩
theorem nb {a b : Nat} (h : Aside0 (a ≠ b)) : a ≠ b ∧ b ≠ a := ⟨h.out, Ne.symm h.out⟩
theorem z1 (h : Aside0 (w.heap[g]? = some (.cells #[a] t (0, 0)))) : w.cell? ⟨g, 0, none⟩ = some a ∧ w.frozen? ⟨g, 0, none⟩ = false := ⟨blk_cell h.out 0, blk_frozen h.out 0⟩
theorem z2 (h : Aside0 (w.heap[g]? = some (.cells #[a, b] t (0, 0)))) : w.cell? ⟨g, 0, none⟩ = some a ∧ w.cell? ⟨g, 1, none⟩ = some b ∧ w.frozen? ⟨g, 0, none⟩ = false ∧ w.frozen? ⟨g, 1, none⟩ = false := ⟨blk_cell h.out 0, blk_cell h.out 1, blk_frozen h.out 0, blk_frozen h.out 1⟩
theorem z3 (h : Aside0 (w.heap[g]? = some (.cells #[a, b, c] t (0, 0)))) : w.cell? ⟨g, 0, none⟩ = some a ∧ w.cell? ⟨g, 1, none⟩ = some b ∧ w.cell? ⟨g, 2, none⟩ = some c ∧ w.frozen? ⟨g, 0, none⟩ = false ∧ w.frozen? ⟨g, 1, none⟩ = false ∧ w.frozen? ⟨g, 2, none⟩ = false := ⟨blk_cell h.out 0, blk_cell h.out 1, blk_cell h.out 2, blk_frozen h.out 0, blk_frozen h.out 1, blk_frozen h.out 2⟩
theorem z4 (h : Aside0 (w.heap[g]? = some (.cells #[a, b, c, d] t (0, 0)))) : w.cell? ⟨g, 0, none⟩ = some a ∧ w.cell? ⟨g, 1, none⟩ = some b ∧ w.cell? ⟨g, 2, none⟩ = some c ∧ w.cell? ⟨g, 3, none⟩ = some d ∧ w.frozen? ⟨g, 0, none⟩ = false ∧ w.frozen? ⟨g, 1, none⟩ = false ∧ w.frozen? ⟨g, 2, none⟩ = false ∧ w.frozen? ⟨g, 3, none⟩ = false := ⟨blk_cell h.out 0, blk_cell h.out 1, blk_cell h.out 2, blk_cell h.out 3, blk_frozen h.out 0, blk_frozen h.out 1, blk_frozen h.out 2, blk_frozen h.out 3⟩
end
section
variable {P : Program} {ops : Array Oper} {o : Oper} {a : Act} {Q : Exit → Act → World → Prop} {rest : List Oper} {W : World}
theorem gd (N : Tmp) (h : wpList P ops Q (o :: rest) a W) (_hN : o.dst = some N := by with_reducible rfl) : wpList P ops Q (o :: rest) a W := h
theorem gc (f : FuncId) {as : Array Operand} {ts : Array TypeId} (h : wpList P ops Q (o :: rest) a W) (_ho : o.op = .call { callee := .value (.func f), args := as, argTypes := ts } := by with_reducible rfl) : wpList P ops Q (o :: rest) a W := h
end
section
variable {P : Program} {md : Region.Mode} {ops : Array Oper} {Q : Exit → Act → World → Prop} {S : World → Prop} {ds : List Nat}
theorem nx {fuel : Nat} {l : Array Bool} {a a' : Act} {w : World} (h : wpAnyLast P md ops Q S ds fuel l a' w) (ha : a = a' := by first | (simp only [putAll, Act.put, List.setIfInBounds_toArray, List.set_cons_zero, List.set_cons_succ]; done) | (simp only [putAll, Act.put, List.setIfInBounds_toArray, List.set_cons_zero, List.set_cons_succ]; rfl)) : wpAnyLast P md ops Q S ds fuel l a w := norm_ ha h
theorem tk {T : Bool × List (List Nat × List Nat)} {B : List Nat} (i : Nat) (N : Option Tmp) {oi : Oper} {v : Value} {fuel : Nat} {l : Array Bool} {a : Act} {w : World} (l' : Array Bool) {a' : Act} (hS : S w) (h : wpAnyLast P md ops Q S ds fuel l' a' w) (hT : Aside0 (rtab md ops = T) := by assumption) (hB : Aside0 (waitsOk T.2 B = true) := by assumption) (hi : ops[i]? = some oi := by rfl) (hN : oi.dst = N := by rfl)
    (hc : takeW T B ds l.toList l'.toList i = true := by kernel_rfl) (hQ : ∀ c a w, Q (.panic c) (a.put oi.dst v) w → Q (.panic c) a w := by exact fun _ _ _ h => h) (hq : Region.wanted oi (yielded ops a.tmps) = true ∧ ∀ w' : World, S w' → (execOp a.eval oi).run P w' = .ok (.value v) w' := by exact ⟨by rfl, by intro w' hs_; (try dsimp only at hs_); go_simp; with_reducible rfl⟩)
    (ha : a.put N v = a' := by simp only [Act.put, List.setIfInBounds_toArray, List.set_cons_zero, List.set_cons_succ, i64_w, i32_w]; rfl) : wpAnyLast P md ops Q S ds (fuel + 1) l a w :=
  take_ l' hi hN (take_ofW hT.out hB.out hc) hQ (Or.inl hq) hS ha h
theorem go1 {oi : Oper} {N : Option Tmp} {a : Act} {w : World} {K : Act → World → Prop} {f : FuncId} {fn : Func} {as : Array Operand} {ts : Array TypeId} (hf : P.funcs[f]? = some fn) (args : Array Value) (h : Calls P f args w fun e w' => ∃ v, e = .returned v ∧ K (a.put N v) w') (hN : oi.dst = N := by rfl)
    (hop : oi.op = .call { callee := .value (.func f), args := as, argTypes := ts } := by rfl) (hname : (fn.name == "runtime.NumGoroutine") = false := by kernel_rfl) (hb : fn.body.isSome = true := by rfl) (hw : Region.wanted oi (yielded ops a.tmps) = true := by rfl)
    (hargs : as.map a.eval = args := by (try simp only [List.map_toArray, List.map_cons, List.map_nil]); first | done | rfl | (simp only [List.length_drop, List.length_take]; rfl)) : if Region.wanted oi (yielded ops a.tmps) = true then Oper.wp P oi a w K Q else K (a.put N undef) w :=
  goes_ hf hname hb args hw hN hop hargs h
end
end Go.Proofs.YtfaakdokcldnkaaGreatDoor.Sq
