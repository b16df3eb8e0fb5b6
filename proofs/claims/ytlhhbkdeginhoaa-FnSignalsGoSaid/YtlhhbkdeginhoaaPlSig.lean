/- Plain facts: Sig. No condition. -/
import Derived.Test.YtlhhbkdeginhoaaPlBase
import Derived.RowKit
import Derived.Test.YtlhhbkdeginhoaaWWords
import Derived.Test.YtlhhbkdeginhoaaWMore
import Derived.Test.YtlhhbkdeginhoaaOpn
namespace Go.Proofs.Ytlhhbkdeginhoaa.Pl
open Go.RowKit Go.Proofs.YtlhhbkdeginhoaaW.PrintWords Go.Proofs.YtlhhbkdeginhoaaW.PrintMore Go.Proofs.Ytlhhbkdeginhoaa.Opn
set_option linter.unusedVariables false
set_option linter.unusedSimpArgs false
/-- Where a signal is. -/
def plc (n f : Int) (l : Bool) (s t : Int) : Int :=
  if n = 1 then 0 else
    let r := 2 * (n - 1)
    let m := ((if l = true then r - f else f) + t / s) % r
    if m < r - m then m else r - m
/-- Does it come there? -/
def cms (n s t : Int) : Bool := decide (t = 0) || (decide (n > 1) && decide (t % s = 0))
def sigOK (n f s : Int) : Prop := 1 ≤ n ∧ n ≤ 100 ∧ 0 ≤ f ∧ f ≤ n - 1 ∧ 1 ≤ s ∧ s ≤ 10
instance (n f s : Int) : Decidable (sigOK n f s) := by unfold sigOK; infer_instance
def mtg (n f : Int) (l : Bool) (s f' : Int) (l' : Bool) (s' t : Int) : Bool := (cms n s t || cms n s' t) && decide (plc n f l s t = plc n f' l' s' t)
theorem plc_bd {n f : Int} {l : Bool} {s t : Int} (h : sigOK n f s) (ht : 0 ≤ t) : 0 ≤ plc n f l s t ∧ plc n f l s t ≤ n - 1 := by
  unfold sigOK at h
  unfold plc
  by_cases h1 : n = 1
  · simp [h1]
  · simp only [if_neg h1]
    generalize (if l = true then 2 * (n - 1) - f else f) + t / s = x
    have hm := Int.emod_nonneg x (show 2 * (n - 1) ≠ 0 by omega)
    have hM := Int.emod_lt_of_pos x (show 0 < 2 * (n - 1) by omega)
    generalize x % (2 * (n - 1)) = m at hm hM
    split <;> omega
end Go.Proofs.Ytlhhbkdeginhoaa.Pl
