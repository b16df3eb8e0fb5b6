/- Plain facts: Tms. No condition. -/
import Derived.Test.YtlhhbkdeginhoaaPlSig
import Derived.RowKit
import Derived.Test.YtlhhbkdeginhoaaWWords
import Derived.Test.YtlhhbkdeginhoaaWMore
import Derived.Test.YtlhhbkdeginhoaaOpn
namespace Go.Proofs.Ytlhhbkdeginhoaa.Pl
open Go.RowKit Go.Proofs.YtlhhbkdeginhoaaW.PrintWords Go.Proofs.YtlhhbkdeginhoaaW.PrintMore Go.Proofs.Ytlhhbkdeginhoaa.Opn
set_option linter.unusedVariables false
set_option linter.unusedSimpArgs false
def atP (n f : Int) (l : Bool) (s p t : Int) : Bool := cms n s t && decide (plc n f l s t = p)
/-- The times at which a signal comes to a place. -/
def tms (n f : Int) (l : Bool) (s p u : Int) : List Int × Bool :=
  if sigOK n f s ∧ (0 ≤ p ∧ p ≤ n - 1) ∧ 0 ≤ u ∧ u ≤ 1000 then (fil (atP n f l s p) 0 (u + 1).toNat, true) else ([], false)
theorem tms_len (n f : Int) (l : Bool) (s p u : Int) : (tms n f l s p u).1.length ≤ 1001 := by
  unfold tms
  split
  · have := fil_len (atP n f l s p) (u + 1).toNat 0
    simp only
    omega
  · simp
end Go.Proofs.Ytlhhbkdeginhoaa.Pl
