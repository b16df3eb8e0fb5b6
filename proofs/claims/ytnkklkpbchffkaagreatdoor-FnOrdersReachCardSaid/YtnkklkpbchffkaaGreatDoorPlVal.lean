/- Plain facts: Val. No condition. -/
import Derived.Test.YtnkklkpbchffkaaGreatDoorPlRow
import Derived.Test.YtnkklkpbchffkaaGreatDoorPlClue
import Derived.RowKit
import Derived.Test.YtnkklkpbchffkaaGreatDoorWWords
import Derived.Test.YtnkklkpbchffkaaGreatDoorWMore
import Derived.Test.YtnkklkpbchffkaaGreatDoorOpn
namespace Go.Proofs.YtnkklkpbchffkaaGreatDoor.Pl
open Go.RowKit Go.Proofs.YtnkklkpbchffkaaGreatDoorW.PrintWords Go.Proofs.YtnkklkpbchffkaaGreatDoorW.PrintMore Go.Proofs.YtnkklkpbchffkaaGreatDoor.Opn
set_option linter.unusedVariables false
set_option linter.unusedSimpArgs false
/-- What a clue of a kind tells of a row, with a soldier and ticks. -/
def val (k a b : Int) (l : List UInt8) : Int :=
  if k = 0 then (if (twn b.toNat l)[a.toNat]? = some 62 then 1 else 0) else if k = 1 then (l.count 62 : Int) else if k = 2 then ((rst 1000000 l).2 : Int) else if k = 3 then ((prs 0 l).length : Int) else trc 1000000 a l
/-- A clue's kind, soldier and ticks are such. -/
def kok (n k a b : Int) : Prop := (k = 0 ∧ (0 ≤ a ∧ a ≤ n - 1) ∧ 0 ≤ b ∧ b ≤ 20) ∨ k = 1 ∨ k = 2 ∨ k = 3 ∨ (k = 4 ∧ 0 ≤ a ∧ a ≤ n - 1)
theorem kok_of {n k a b c : Int} (h : cok n k a b c = true) : kok n k a b := by
  unfold cok at h
  unfold kok
  by_cases h0 : k = 0
  · rw [if_pos h0] at h; simp only [Bool.and_eq_true, decide_eq_true_eq] at h; exact .inl ⟨h0, h.1, h.2.1⟩
  rw [if_neg h0] at h
  by_cases h1 : k = 1
  · exact .inr (.inl h1)
  rw [if_neg h1] at h
  by_cases h2 : k = 2
  · exact .inr (.inr (.inl h2))
  rw [if_neg h2] at h
  by_cases h3 : k = 3
  · exact .inr (.inr (.inr (.inl h3)))
  rw [if_neg h3] at h
  by_cases h4 : k = 4
  · rw [if_pos h4] at h; simp only [Bool.and_eq_true, decide_eq_true_eq] at h; exact .inr (.inr (.inr (.inr ⟨h4, h.1⟩)))
  rw [if_neg h4] at h
  cases h
end Go.Proofs.YtnkklkpbchffkaaGreatDoor.Pl
