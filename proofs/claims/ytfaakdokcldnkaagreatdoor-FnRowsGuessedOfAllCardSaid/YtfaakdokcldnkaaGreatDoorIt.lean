/- Ranging over a string of ASCII bytes: the iterator lies in a block of its own; what a step of it turns, and what it leaves. No condition. -/
import Derived.Test.YtfaakdokcldnkaaGreatDoorWWords
import Derived.Test.YtfaakdokcldnkaaGreatDoorWSmall
import Derived.Lib.OthersKept
namespace Go.Proofs.YtfaakdokcldnkaaGreatDoorW.PrintWords
open Go.RowKit
/-- Nothing but block g has turned. -/
structure Turned (W W1 : World) (g : Nat) : Prop where
  os : W1.os = W.os
  tape : W1.tape = W.tape
  output : W1.output = W.output
  size : W1.heap.size = W.heap.size
  block : ∀ i, i ≠ g → W1.heap[i]? = W.heap[i]?
section
variable {w W W1 : World} {g g' : Nat} {s : ByteArray} {o : Obj}
theorem turned_iterAt (W : World) (g : Nat) (s : ByteArray) (p : Nat) : Turned W (W.iterAt g s p) g := ⟨rfl, rfl, rfl, Lib.iterAt_size W g s p, fun i hi => Lib.iterAt_other W g i s p hi⟩
theorem Turned.kept (h : Turned W W1 g) : Kept W W1 (fun k => k = g) := ⟨Nat.le_of_eq h.size.symm, fun i _ hn => h.block i hn⟩
theorem Turned.blk (h : Turned W W1 g) (hb : W.heap[g']? = some o) (hne : g' ≠ g) : W1.heap[g']? = some o := (h.block g' hne).trans hb
theorem below_turned {B : Nat} (h : Below B w W) (hg : B ≤ g) (k : Turned W W1 g) : Below B w W1 :=
  ⟨k.os.trans h.os, k.tape.trans h.tape, k.output.trans h.output, by rw [k.size]; exact h.size, fun i hi => (k.block i (by omega)).trans (h.block i hi)⟩
theorem it_far {p0 : Nat} (h : W.heap[g]? = some (.stringIter s p0)) {p : Addr} (hp : g ≠ p.block) (u : Value) : (W.setCell p u).heap[g]? = some (.stringIter s p0) := (Below.heap_setCell W p u g hp).trans h
theorem Kept.turned {S : Nat → Prop} (h : Kept w W S) (k : Turned W W1 g) (hg : S g ∨ w.heap.size ≤ g) : Kept w W1 S := h.then_ k.kept (fun i hi => by rw [hi]; exact hg)
theorem KeepBut.turned {g0 : Nat} (h : KeepBut w W g0 none) (k : Turned W W1 g) (hg : w.heap.size ≤ g) : KeepBut w W1 g0 none :=
  ⟨by rw [k.size]; exact h.1, fun i hi hn hr => (k.block i (by omega)).trans (h.2 i hi hn hr)⟩
end
namespace Kd
section
variable {α : Type} {d : Kd α} {e base g p : Nat} {ok : Nat → Prop} {W W1 : World} {v : Value} {xs : List α} {s : ByteArray} {A : Option Addr} {n : Nat}
theorem R_it (h : d.R e W base ok v xs) (hb : W.heap[g]? = some (.stringIter s p)) : d.R e W base (fun k => ok k ∧ k ≠ g) v xs :=
  R_mono (R_bound h) (fun k hk => ⟨hk.1, fun e1 => by
    obtain ⟨_, _, _, q, _, cells, hc⟩ := hk
    rw [e1, hb] at hc
    cases hc⟩)
theorem S_it (h : S d e W base ok v xs) (hb : W.heap[g]? = some (.stringIter s p)) : S d e W base (fun k => ok k ∧ k ≠ g) v xs := by
  obtain ⟨f, h⟩ := h
  exact ⟨f, R_it h hb⟩
theorem Q_it (h : d.Q e W base ok v xs) (hb : W.heap[g]? = some (.stringIter s p)) : d.Q e W base (fun k => ok k ∧ k ≠ g) v xs :=
  Q_mono (Q_bound h) (fun k hk => ⟨hk.1, fun e1 => by
    obtain ⟨_, _, _, q, _, cells, hc⟩ := hk
    rw [e1, hb] at hc
    cases hc⟩)
theorem R_turned (h : d.R e W base ok v xs) (hb : W.heap[g]? = some (.stringIter s p)) (k : Turned W W1 g) : d.R e W1 base ok v xs := R_mono (R_keptB (R_it h hb) k.kept (fun _ hk => hk.2)) (fun _ hk => hk.1.1)
theorem S_turned (h : S d e W base ok v xs) (hb : W.heap[g]? = some (.stringIter s p)) (k : Turned W W1 g) : S d e W1 base ok v xs := S_mono (S_keptB (S_it h hb) k.kept (fun _ hk => hk.2)) (fun _ hk => hk.1.1)
theorem Q_turned (h : d.Q e W base ok v xs) (hb : W.heap[g]? = some (.stringIter s p)) (k : Turned W W1 g) : d.Q e W1 base ok v xs := Q_mono (Q_keptB (Q_it h hb) k.kept (fun _ hk => hk.2)) (fun _ hk => hk.1.1)
theorem N_turned (h : N d e W base ok v xs) (hne : ∀ k, ok k → k ≠ g) (k : Turned W W1 g) : N d e W1 base ok v xs := N_mono (N_keptB h k.kept (fun q hq e => hne q hq e)) (fun _ hk => hk.1)
theorem R_nei (h : d.R e W base ok v xs) (hb : W.heap[g]? = some (.stringIter s p)) : some g ≠ v.ownBlock := fun e1 => by
  obtain ⟨c, hc⟩ := R_typed h g e1.symm
  rw [hb] at hc
  cases hc
theorem S_nei (h : S d e W base ok v xs) (hb : W.heap[g]? = some (.stringIter s p)) : some g ≠ v.ownBlock := R_nei (S_R h) hb
theorem Q_nei (h : d.Q e W base ok v xs) (hb : W.heap[g]? = some (.stringIter s p)) : some g ≠ v.ownBlock := fun e1 => by
  obtain ⟨_, inner, ho, _⟩ := h
  obtain ⟨_, c, hc⟩ := q_typed ho g e1.symm
  rw [hb] at hc
  cases hc
end
end Kd
section
variable {P : Program} {ops : Array Oper} {rest : List Oper} {o : Oper} {a : Act} {Q : Exit → Act → World → Prop} {W : World}
theorem iter_event (hgd : o.guard = none) {N : Tmp} (_hd : o.dst = some N) {s : ByteArray} {t : TypeId} (hox : ∃ x, o.op = .range t x ∧ a.eval x = .string s) (ht : P.underlying t = some .string)
    (h : ∀ g, g = W.heap.size → ∀ w1, w1.heap[g]? = some (.stringIter s (0 : Int).toNat) → Below W.heap.size W w1 → wpList P ops Q rest (a.put o.dst (.pointer (some ⟨g, 0, none⟩))) w1) : wpList P ops Q (o :: rest) a W := by
  obtain ⟨x, ho, hx⟩ := hox
  have hr := run_range_string (P := P) W t s ht
  refine Kd.event_run hgd (w1 := W.alloc (.stringIter s 0)) (v := .pointer (some ⟨W.heap.size, 0, none⟩)) ?_ (h _ rfl _ (blk_new W _) (below_alloc (Below.refl _ _) _))
  simp only [execOp, ho, hx, Sem.run_bind, hr, Result.andThen, World.iter]
  rfl
theorem next_event (hgd : o.guard = none) {N : Tmp} (_hd : o.dst = some N) {s : ByteArray} {g : Nat} {p : Int} (hox : ∃ x, o.op = .next x true ∧ a.eval x = .pointer (some ⟨g, 0, none⟩))
    (hb : W.heap[g]? = some (.stringIter s p.toNat)) (h0 : 0 ≤ p) (h1 : p < (s.size : Int)) (h2 : bt s p < 128)
    (h : ∀ w1, w1.heap[g]? = some (.stringIter s (p + 1).toNat) → Turned W w1 g → wpList P ops Q rest (a.put o.dst (.tuple #[.bool true, .int .i64 p, .int .i32 (bt s p)])) w1) : wpList P ops Q (o :: rest) a W := by
  obtain ⟨x, ho, hx⟩ := hox
  have hlt : p.toNat < s.size := by omega
  have hv := bt_at s p hlt
  have hr := Lib.run_next_ascii_at (P := P) W g s p.toNat o.type hb hlt (by omega)
  rw [hv, Int.toNat_of_nonneg h0] at hr
  refine Kd.event_run hgd (w1 := W.iterAt g s (p + 1).toNat) (v := .tuple #[.bool true, .int .i64 p, .int .i32 (bt s p)]) ?_ (h _ (Lib.iterAt_heap W g s p.toNat _ hb) (turned_iterAt W g s _))
  rw [show (p + 1).toNat = p.toNat + 1 by omega]
  simp only [execOp, ho, hx, Sem.run_bind, hr, Result.andThen]
  rfl
theorem next_end_event (hgd : o.guard = none) {N : Tmp} (_hd : o.dst = some N) {s : ByteArray} {g : Nat} {p : Int} (hox : ∃ x, o.op = .next x true ∧ a.eval x = .pointer (some ⟨g, 0, none⟩))
    (hb : W.heap[g]? = some (.stringIter s p.toNat)) (h1 : ¬ p < (s.size : Int))
    (h : wpList P ops Q rest (a.put o.dst (.tuple #[.bool false])) W) : wpList P ops Q (o :: rest) a W := by
  obtain ⟨x, ho, hx⟩ := hox
  have hlt : ¬ p.toNat < s.size := by omega
  have hr := Lib.run_next_end_at (P := P) W g s p.toNat o.type hb hlt
  refine Kd.event_run hgd (w1 := W) (v := .tuple #[.bool false]) ?_ h
  simp only [execOp, ho, hx, Sem.run_bind, hr, Result.andThen]
  rfl
end
end Go.Proofs.YtfaakdokcldnkaaGreatDoorW.PrintWords
