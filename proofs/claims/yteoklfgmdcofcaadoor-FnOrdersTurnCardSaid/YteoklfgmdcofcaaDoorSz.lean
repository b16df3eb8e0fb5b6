/- More short words for the steps of the walks. No condition. -/
import Derived.Test.YteoklfgmdcofcaaDoorSq
namespace Go.Proofs.YteoklfgmdcofcaaDoor.Sq
open Go.RowKit Go.Proofs.YteoklfgmdcofcaaDoorW.PrintWords Go.Proofs.YteoklfgmdcofcaaDoorW.PrintLast Go.Proofs.YteoklfgmdcofcaaDoorW.PrintMore
section
variable {α β : Type} {w W W0 W1 W2 : World} {d : Kd α} {f : Kd β} {e e2 base base2 g n c t i j k : Nat} {ok ok2 : Nat → Prop} {v u u1 u2 u3 : Value} {xs : List α} {ys : List β} {A : Option Addr} {row : Option Nat} {cs : Array Value}
theorem rl (_h : Aside0 (Kd.R d e W0 base ok v xs)) (hb : Below W1.heap.size W1 W2) (h : Kd.R d e W1 base ok v xs := by (with_reducible repeat (first | apply Kd.R_alloc | apply Kd.R_drewN | apply Kd.R_drew)); exact Aside0.out (by assumption)) : Aside0 (Kd.R d e W2 base ok v xs) := ⟨Kd.R_below h hb⟩
theorem re (_h : Aside0 (Kd.R d e W0 base ok v xs)) (ho : Kd.R f e2 W2 W1.heap.size ok2 u ys) (hb : Below W1.heap.size W1 W2) (h : Kd.R d e W1 base ok v xs := by (with_reducible repeat (first | apply Kd.R_alloc | apply Kd.R_drewN | apply Kd.R_drew)); exact Aside0.out (by assumption)) : Aside0 (Kd.R d e W2 base (fun k => ok k ∧ some k ≠ u.ownBlock) v xs) := ⟨Kd.R_elder' h (Kd.R_base ho) hb⟩
theorem rr (_h : Aside0 (Kd.R d e W0 base ok (.slice A n c) xs)) (h : Kd.C d W A xs.length xs := by repeat (first | exact (Kd.R_reads' (Aside0.out (by assumption))).2.2 | (with_reducible refine Kd.C_alloc ?_ _) | (with_reducible refine Kd.C_drewN ?_ _) | (with_reducible refine Kd.C_drew ?_))) : Kd.C d W A xs.length xs := h
theorem rn (h : Aside0 (Kd.R d e W0 base ok (.slice A n c) xs)) : n ≤ c := (Kd.R_reads' h.out).2.1
theorem cr (_h : Aside0 (Kd.C d W0 A n xs)) (h : Kd.C d W A n xs := by repeat (first | exact Aside0.out (by assumption) | (with_reducible refine Kd.C_alloc ?_ _) | (with_reducible refine Kd.C_drewN ?_ _) | (with_reducible refine Kd.C_drew ?_))) : Kd.C d W A n xs := h
theorem rf3_ (h : Aside0 (Kd.R d e W base ok v xs)) (hb : Aside0 (W.heap[g]? = some (.cells cs t (0, 0)))) (hd : ∀ q, q ∈ e :: d.E → q ≠ t) : Kd.R d e (((W.setCell ⟨g, i, none⟩ u1).setCell ⟨g, j, none⟩ u2).setCell ⟨g, k, none⟩ u3) base ok v xs := Kd.R_mono (Kd.R_far (p := ⟨g, k, none⟩) (Kd.R_far (p := ⟨g, j, none⟩) (Kd.R_far (p := ⟨g, i, none⟩) (Kd.R_types h.out hb.out hd) (fun _ hk => hk.2) u1) (fun _ hk => hk.2) u2) (fun _ hk => hk.2) u3) (fun _ hk => hk.1)
theorem qf3 (_h : Aside0 (Kd.R d e W0 base ok v xs)) (h : Kd.R d e W base ok v xs := by (with_reducible repeat (first | apply Kd.R_alloc | apply Kd.R_drewN | apply Kd.R_drew)); exact rf3_ (by assumption) (by assumption) (by decide)) : Kd.R d e W base ok v xs := h
theorem prN (_h : Aside0 (Kd.N d e W0 base ok v xs)) (h : Kd.N d e W base ok v xs := by (with_reducible repeat (first | apply Kd.N_alloc | apply Kd.N_drewN | apply Kd.N_drew)); exact Aside0.out (by assumption)) : Kd.N d e W base ok v xs := h
theorem hkk (h : KeepBut w W g row := by repeat (first | (with_reducible first | exact HK.out | apply KeepBut.set_ | apply keep_drewN | apply keep_drew | apply keep_alloc | refine keep_far ?_ (Aside0.out (by assumption)) _) | exact HK.out)) : KeepBut w W g row := h
theorem kt (_h : Aside0 (KeepBut w W0 g row)) (hk : KeepBut W W2 g row) (h : KeepBut w W g row := by exact hkk) : Aside0 (KeepBut w W2 g row) := ⟨KeepBut.trans h hk (.inl rfl)⟩
end
theorem zz {p : Prop} (h : p := by first | exact ⟨rfl, _, World.drewN_drewN _ _ _⟩ | exact ⟨rfl, _, Eq.trans (World.drewN_drewN _ _ _) (congrArg (World.drewN _) (Nat.add_assoc _ _ _))⟩) : p := h
theorem asm {p : Prop} (h : p := by first | (with_reducible assumption) | assumption) : p := h
end Go.Proofs.YteoklfgmdcofcaaDoor.Sq
