/- Plain facts: List. No condition. -/
import Derived.Test.YtnkklkpbchffkaaGreatDoorPlBase
import Derived.RowKit
import Derived.Test.YtnkklkpbchffkaaGreatDoorWWords
import Derived.Test.YtnkklkpbchffkaaGreatDoorWMore
import Derived.Test.YtnkklkpbchffkaaGreatDoorOpn
namespace Go.Proofs.YtnkklkpbchffkaaGreatDoor.Pl
open Go.RowKit Go.Proofs.YtnkklkpbchffkaaGreatDoorW.PrintWords Go.Proofs.YtnkklkpbchffkaaGreatDoorW.PrintMore Go.Proofs.YtnkklkpbchffkaaGreatDoor.Opn
set_option linter.unusedVariables false
set_option linter.unusedSimpArgs false
theorem rd_cons_drop {l : List Int} {j : Nat} (h : j < l.length) : l.drop j = rd l (j : Int) :: l.drop (j + 1) := by
  rw [List.drop_eq_getElem_cons h]
  congr 1
  simp [rd, h]
theorem rd_mem {l : List Int} {j : Nat} (h : j < l.length) : rd l (j : Int) ∈ l := by
  simp [rd, h]
theorem rd_append {l : List Int} {y : Int} : rd (l ++ [y]) (l.length : Int) = y := by simp [rd]
/-- What a copying loop has so far. -/
def cpy {α : Type} (z : α) (l : List α) (i : Nat) : List α := l.take i ++ List.replicate (l.length - i) z
theorem cpy_zero {α : Type} (z : α) (l : List α) : cpy z l 0 = List.replicate l.length z := by simp [cpy]
theorem cpy_all {α : Type} (z : α) (l : List α) : cpy z l l.length = l := by simp [cpy]
theorem cpy_len {α : Type} (z : α) (l : List α) (i : Nat) (h : i ≤ l.length) : (cpy z l i).length = l.length := by simp [cpy]; omega
theorem cpy_succ {α : Type} (z : α) (l : List α) (i : Nat) (h : i < l.length) : (cpy z l i).set i l[i] = cpy z l (i + 1) := by
  have e : List.replicate (l.length - i) z = z :: List.replicate (l.length - (i + 1)) z := by
    rw [show l.length - i = (l.length - (i + 1)) + 1 by omega]; rfl
  unfold cpy
  rw [e, List.set_append_right _ _ (by simp; omega), List.length_take, Nat.min_eq_left (by omega), Nat.sub_self, List.set_cons_zero, List.take_succ_eq_append_getElem h, List.append_assoc]
  rfl
theorem cpy_succ_rd (l : List Int) (i : Nat) (h : i < l.length) : (cpy 0 l i).set i (rd l (i : Int)) = cpy 0 l (i + 1) := by
  have e : rd l (i : Int) = l[i] := by simp [rd, h]
  rw [e]; exact cpy_succ 0 l i h
/-- Do numbers rise, from a place on, and lie from 0 to hi? -/
def ris (l : List Int) (hi : Int) : Int → Nat → Bool
  | _, 0 => true
  | i, d + 1 => decide (0 ≤ rd l i ∧ rd l i ≤ hi) && (!decide (i > 0) || decide (rd l (i - 1) < rd l i)) && ris l hi (i + 1) d
theorem ris_all (l : List Int) (hi : Int) : ∀ (d : Nat) (i : Int), ris l hi i d = true → ∀ j, i ≤ j → j < i + d → 0 ≤ rd l j ∧ rd l j ≤ hi
  | 0, i, _, j, h1, h2 => by omega
  | d + 1, i, h, j, h1, h2 => by
    simp only [ris, Bool.and_eq_true, decide_eq_true_eq] at h
    by_cases e : j = i
    · subst e; exact h.1.1
    · exact ris_all l hi d (i + 1) h.2 j (by omega) (by omega)
theorem ris_mem {l : List Int} {hi : Int} (h : ris l hi 0 l.length = true) : ∀ x ∈ l, 0 ≤ x ∧ x ≤ hi := by
  intro x hx
  obtain ⟨j, hj, rfl⟩ := List.getElem_of_mem hx
  have := ris_all l hi l.length 0 h (j : Int) (by omega) (by omega)
  simpa [rd, hj] using this
end Go.Proofs.YtnkklkpbchffkaaGreatDoor.Pl
