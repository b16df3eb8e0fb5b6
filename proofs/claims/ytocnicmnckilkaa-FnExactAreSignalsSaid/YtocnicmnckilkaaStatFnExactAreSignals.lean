/- The pure statement of the law FnExactAreSignals. No condition. -/
import Derived.Test.YtocnicmnckilkaaOpn
import Derived.Test.YtocnicmnckilkaaPFnExactAreSignalsx2
namespace Go.Proofs.Ytocnicmnckilkaa.Pure
open Go.RowKit Go.Proofs.Ytocnicmnckilkaa.PFnExactAreSignals Go.Proofs.YtocnicmnckilkaaW.PrintWords Go.Proofs.Ytocnicmnckilkaa.Opn
/-- What is left of the law FnExactAreSignals. -/
def StatFnExactAreSignals : Prop := ∀ (a0 : Int) (l1 : List (S41)), I64 a0 → l1.length * 24 ≤ 140737488351232 → (∀ x ∈ l1, (I64 x.f0) ∧ (I64 x.f2)) → ∃ k_ : Nat, laws_FnExactAreSignals.f k_ a0 l1 = some true
end Go.Proofs.Ytocnicmnckilkaa.Pure
