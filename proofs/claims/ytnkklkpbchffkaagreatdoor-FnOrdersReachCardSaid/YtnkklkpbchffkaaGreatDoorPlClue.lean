/- Plain facts: Clue. No condition. -/
import Derived.Test.YtnkklkpbchffkaaGreatDoorPlList
import Derived.RowKit
import Derived.Test.YtnkklkpbchffkaaGreatDoorWWords
import Derived.Test.YtnkklkpbchffkaaGreatDoorWMore
import Derived.Test.YtnkklkpbchffkaaGreatDoorOpn
namespace Go.Proofs.YtnkklkpbchffkaaGreatDoor.Pl
open Go.RowKit Go.Proofs.YtnkklkpbchffkaaGreatDoorW.PrintWords Go.Proofs.YtnkklkpbchffkaaGreatDoorW.PrintMore Go.Proofs.YtnkklkpbchffkaaGreatDoor.Opn
set_option linter.unusedVariables false
set_option linter.unusedSimpArgs false
/-- Is there a clue of rows of n soldiers? -/
def cok (n k a b c : Int) : Bool :=
  if k = 0 then decide (0 ≤ a ∧ a ≤ n - 1) && (decide (0 ≤ b ∧ b ≤ 20) && decide (0 ≤ c ∧ c ≤ 1))
  else if k = 1 then decide (a = 0) && (decide (b = 0) && decide (0 ≤ c ∧ c ≤ n))
  else if k = 2 then decide (a = 0) && (decide (b = 0) && decide (0 ≤ c ∧ c ≤ 20))
  else if k = 3 then decide (a = 0) && (decide (b = 0) && decide (0 ≤ c ∧ c ≤ 8))
  else if k = 4 then decide (0 ≤ a ∧ a ≤ n - 1) && (decide (b = 0) && decide (0 ≤ c ∧ c ≤ 20))
  else false
theorem ite_and (p q : Bool) : (if p = true then some q else some false) = some (p && q) := by cases p <;> rfl
theorem ite_dec (p : Prop) [Decidable p] (q : Bool) : (if p then some q else some false) = some (decide p && q) := by by_cases h : p <;> simp [h]
end Go.Proofs.YtnkklkpbchffkaaGreatDoor.Pl
